/- A contract of the function impl_ProbeTubeOk. (Began as a print of the kit's tool.) -/
import Derived.Test.YtfoapgcnjnogiaaPAd
import Derived.Test.YtfoapgcnjnogiaaCx
import Derived.Test.YtfoapgcnjnogiaaC50
import Derived.Test.YtfoapgcnjnogiaaC17
namespace Go.Proofs.Ytfoapgcnjnogiaa.PA
open Go.RowKit Go.Proofs.YtfoapgcnjnogiaaW.PrintWords Go.Proofs.YtfoapgcnjnogiaaW.PrintLast Go.Proofs.YtfoapgcnjnogiaaW.PrintMore Go.Proofs.Ytfoapgcnjnogiaa.Z
attribute [local go_sem] max2_int min2_int max_two min_two max_three min_three max_four min_four
set_option linter.unusedVariables false
set_option linter.unusedSimpArgs false
set_option maxHeartbeats 8000000 in
set_option maxRecDepth 100000 in
theorem impl_ProbeTubeOk.calls (k : Nat) (a0_0 : ByteArray) (A0_1 : Option Addr) (c0_1 : Nat) (l0_1 : List (S26)) (r : Bool) (w : World) (hr0_1 : Kd.C k26 w A0_1 l0_1.length l0_1) (hc0_1 : l0_1.length ≤ c0_1) (h : impl_ProbeTubeOk.f k a0_0 l0_1 = some r) :
    Calls Try.prog 23 #[.agg #[.string a0_0, .slice A0_1 l0_1.length c0_1]] w fun e w' => e = .returned (.bool r) ∧ Below w.heap.size w w' := by
  have hu39 := Try.underlying39
  have hu26 := Try.underlying26
  have HR0_1 := Aside0.mk hr0_1
  have HC0_1 := Aside0.mk hc0_1
  clear hr0_1 hc0_1
  have HB := ra (Below.refl w.heap.size w)
  have H : ((impl_in.f (a0_0.size : Int) 1 8).bind fun t198 => (if t198 = true then (impl_ProbeTubeOk.j0 k (decide ((l0_1.length : Int) > 40)) a0_0 l0_1) else (impl_ProbeTubeOk.j0 k true a0_0 l0_1))) = some r := h
  clear h
  have HC2 := Aside0.mk H
  clear H
  go_enter Try.func23, Try.ntmps23
  go_upto_region 1 with (first | ((with_reducible refine gate_dst (N := 1) rfl ?_); (try (refine gate_guard (by rfl) ?_; dsimp only)); refine be 1 #[.string a0_0, .slice A0_1 l0_1.length c0_1] 39 ?_; intro gb197 hg w3 hbox hb; have n0 := bs hb; have n1 := ra (hbox); have n2 := bz (w0 := w) hg; have n3 := bz (w0 := w) hg; clear HB; have HB := n0; have BK197 := n1; have GW197 := n2; have GE197 := n3; clear n0 n1 n2 n3; clear hb hbox hg))
  (try simp only [Act.put, List.setIfInBounds_toArray, List.set_cons_zero, List.set_cons_succ])
  go_cut [17] (fun v17 wc => ∃ (kq : Nat) (x17_1 : Bool), v17 = .bool x17_1 ∧ Aside0 (impl_ProbeTubeOk.j0 kq x17_1 a0_0 l0_1 = some r) ∧ Aside0 (kq ≤ k) ∧ Aside0 (wc.heap[gb197]? = some (.cells #[.string a0_0, (.slice A0_1 l0_1.length c0_1)] 39 (0, 0))) ∧ Aside0 (Below w.heap.size w wc))
  case first =>
    have H := HC2.out
    clear HC2
    obtain ⟨t198, A4, H⟩ := bo H
    by_cases c5 : t198 = true
    · subst c5
      replace H := it H rfl
      have H' := Aside0.mk H
      clear H
      obtain ⟨hcz6_0, hcz6_1, hfz6_0, hfz6_1⟩ := zc2 BK197
      go_wp2_with (first | ((with_reducible refine gate_callee (f := 50) rfl ?_); refine gl (some 10) Try.func50 #[.int .i64 (a0_0.size : Int), .int .i64 1, .int .i64 8] ?_; (with_reducible refine (impl_in.calls (a0_0.size : Int) 1 8 true _ A4.out).mono ?_); rintro e w' ⟨rfl, ⟨nd, rfl⟩⟩; refine ⟨_, rfl, ?_⟩))
      go_meet
      case rel => exact ⟨_, (decide ((l0_1.length : Int) > 40)), rs, H', ⟨by first | omega | exact Nat.le_refl _⟩, ⟨bk BK197⟩, ⟨bq⟩⟩
    · replace c5 := Bool.eq_false_iff.mpr c5
      subst c5
      have H1 : (impl_ProbeTubeOk.j0 k true a0_0 l0_1) = some r := by rw [if_neg (show ¬ (false = true) by decide)] at H; exact H
      clear H
      have H := H1
      clear H1
      have H' := Aside0.mk H
      clear H
      obtain ⟨hcz7_0, hcz7_1, hfz7_0, hfz7_1⟩ := zc2 BK197
      go_wp2_with (first | ((with_reducible refine gate_callee (f := 50) rfl ?_); refine gl (some 10) Try.func50 #[.int .i64 (a0_0.size : Int), .int .i64 1, .int .i64 8] ?_; (with_reducible refine (impl_in.calls (a0_0.size : Int) 1 8 false _ A4.out).mono ?_); rintro e w' ⟨rfl, ⟨nd, rfl⟩⟩; refine ⟨_, rfl, ?_⟩))
      go_meet
      case rel => exact ⟨_, (true), rs, H', ⟨by first | omega | exact Nat.le_refl _⟩, ⟨bk BK197⟩, ⟨bq⟩⟩
  case rest =>
    clear HC2
    try clear c5
    try clear hcz6_0
    try clear hcz6_1
    try clear hcz7_0
    try clear hcz7_1
    try clear hfz6_0
    try clear hfz6_1
    try clear hfz7_0
    try clear hfz7_1
    obtain ⟨kq, x17_1, rfl, HA, HJ1, BK197, HB⟩ := hcut
    cases kq with
    | zero => exact absurd HA.out (by simp [impl_ProbeTubeOk.j0])
    | succ kj1 =>
      have H := HA.out
      clear HA
      simp only [impl_ProbeTubeOk.j0] at H
      by_cases c8 : x17_1 = true
      · subst c8
        replace H := it H rfl
        obtain rfl := Option.some.inj H
        go_wp2
        go_ret
        exact ⟨re, bq⟩
      · replace c8 := Bool.eq_false_iff.mpr c8
        subst c8
        have H1 : (impl_ProbeTubeOk.l0 kj1 0 a0_0 l0_1) = some r := by rw [if_neg (show ¬ (false = true) by decide)] at H; exact H
        clear H
        have H := H1
        clear H1
        have H' := Aside0.mk H
        clear H
        go_wp2
        go_loopg [3] kj1 (fun kq v3 w' => ∃ (x3_2 : Int), v3 = .int .i64 x3_2 ∧ Aside0 (impl_ProbeTubeOk.l0 kq x3_2 a0_0 l0_1 = some r) ∧ Aside0 (kq ≤ kj1) ∧ Aside0 (w'.heap[gb197]? = some (.cells #[.string a0_0, (.slice A0_1 l0_1.length c0_1)] 39 (0, 0))) ∧ Aside0 (Below w.heap.size w w'))
        case atStart => exact ⟨(0), rs, H', ⟨Nat.le_refl _⟩, ⟨bk BK197⟩, ⟨bq⟩⟩
        case round =>
          clear H'
          try clear c5
          try clear c8
          try clear hcz6_0
          try clear hcz6_1
          try clear hcz7_0
          try clear hcz7_1
          try clear hfz6_0
          try clear hfz6_1
          try clear hfz7_0
          try clear hfz7_1
          obtain ⟨x3_2, rfl, HA, HK2, BK197, HB⟩ := hrel
          cases gk with
          | zero => exact absurd HA.out (by simp [impl_ProbeTubeOk.l0])
          | succ k2 =>
            have H := HA.out
            clear HA
            simp only [impl_ProbeTubeOk.l0] at H
            by_cases c9 : x3_2 < (a0_0.size : Int)
            · rw [if_pos c9] at H
              have c9b0 : decide (x3_2 < (a0_0.size : Int)) = true := decide_eq_true c9
              clear c9
              by_cases c10 : 0 ≤ x3_2
              · rw [if_pos c10] at H
                have c10b0 : decide (0 ≤ x3_2) = true := decide_eq_true c10
                clear c10
                by_cases c12 : (bt a0_0 x3_2) ≥ 97
                · rw [if_pos c12] at H
                  have c12b0 : decide (97 ≤ (bt a0_0 x3_2)) = true := decide_eq_true c12
                  clear c12
                  by_cases c13 : (bt a0_0 x3_2) ≤ 122
                  · rw [if_pos c13] at H
                    have c13b0 : decide ((bt a0_0 x3_2) ≤ 122) = true := decide_eq_true c13
                    clear c13
                    have H' := Aside0.mk H
                    clear H
                    obtain ⟨hcz14_0, hcz14_1, hfz14_0, hfz14_1⟩ := zc2 BK197
                    have p11 : 0 ≤ (x3_2 : Int) := od
                    have q11 : x3_2 < (a0_0.size : Int) := od
                    have hx11 := bt_at a0_0 x3_2
                    replace p11 := eq_true p11
                    replace q11 := eq_true q11
                    go_wp2
                    go_roundg k2
                    case measure => have := HJ1.out; have := HK2.out; omega
                    case rel => exact ⟨(wrap64 (x3_2 + 1)), rs, H', ⟨by have := HJ1.out; have := HK2.out; omega⟩, ⟨bk BK197⟩, ⟨bq⟩⟩
                  · rw [if_neg c13] at H
                    have c13b0 : decide ((bt a0_0 x3_2) ≤ 122) = false := decide_eq_false c13
                    clear c13
                    by_cases c15 : (bt a0_0 x3_2) ≥ 48
                    · rw [if_pos c15] at H
                      have c15b0 : decide (48 ≤ (bt a0_0 x3_2)) = true := decide_eq_true c15
                      clear c15
                      by_cases c16 : (bt a0_0 x3_2) ≤ 57
                      · rw [if_pos c16] at H
                        have c16b0 : decide ((bt a0_0 x3_2) ≤ 57) = true := decide_eq_true c16
                        clear c16
                        have H' := Aside0.mk H
                        clear H
                        obtain ⟨hcz17_0, hcz17_1, hfz17_0, hfz17_1⟩ := zc2 BK197
                        have p11 : 0 ≤ (x3_2 : Int) := od
                        have q11 : x3_2 < (a0_0.size : Int) := od
                        have hx11 := bt_at a0_0 x3_2
                        replace p11 := eq_true p11
                        replace q11 := eq_true q11
                        go_wp2
                        go_roundg k2
                        case measure => have := HJ1.out; have := HK2.out; omega
                        case rel => exact ⟨(wrap64 (x3_2 + 1)), rs, H', ⟨by have := HJ1.out; have := HK2.out; omega⟩, ⟨bk BK197⟩, ⟨bq⟩⟩
                      · rw [if_neg c16] at H
                        have c16b0 : decide ((bt a0_0 x3_2) ≤ 57) = false := decide_eq_false c16
                        clear c16
                        by_cases c18 : ((bt a0_0 x3_2) = 45)
                        · rw [if_pos c18] at H
                          have c18b0 : ((bt a0_0 x3_2) == 45) = true := beq_iff_eq.mpr c18
                          have c18b1 : ((bt a0_0 x3_2) != 45) = false := bne_eq_false_iff_eq.mpr c18
                          clear c18
                          have H' := Aside0.mk H
                          clear H
                          obtain ⟨hcz19_0, hcz19_1, hfz19_0, hfz19_1⟩ := zc2 BK197
                          have p11 : 0 ≤ (x3_2 : Int) := od
                          have q11 : x3_2 < (a0_0.size : Int) := od
                          have hx11 := bt_at a0_0 x3_2
                          replace p11 := eq_true p11
                          replace q11 := eq_true q11
                          go_wp2
                          go_roundg k2
                          case measure => have := HJ1.out; have := HK2.out; omega
                          case rel => exact ⟨(wrap64 (x3_2 + 1)), rs, H', ⟨by have := HJ1.out; have := HK2.out; omega⟩, ⟨bk BK197⟩, ⟨bq⟩⟩
                        · rw [if_neg c18] at H
                          have c18b0 : ((bt a0_0 x3_2) == 45) = false := beq_eq_false_iff_ne.mpr c18
                          have c18b1 : ((bt a0_0 x3_2) != 45) = true := bne_iff_ne.mpr c18
                          obtain rfl := Option.some.inj H
                          obtain ⟨hcz20_0, hcz20_1, hfz20_0, hfz20_1⟩ := zc2 BK197
                          have p11 : 0 ≤ (x3_2 : Int) := od
                          have q11 : x3_2 < (a0_0.size : Int) := od
                          have hx11 := bt_at a0_0 x3_2
                          replace p11 := eq_true p11
                          replace q11 := eq_true q11
                          go_wp2
                          go_ret
                          exact ⟨re, bq⟩
                    · rw [if_neg c15] at H
                      have c15b0 : decide (48 ≤ (bt a0_0 x3_2)) = false := decide_eq_false c15
                      clear c15
                      by_cases c21 : ((bt a0_0 x3_2) = 45)
                      · rw [if_pos c21] at H
                        have c21b0 : ((bt a0_0 x3_2) == 45) = true := beq_iff_eq.mpr c21
                        have c21b1 : ((bt a0_0 x3_2) != 45) = false := bne_eq_false_iff_eq.mpr c21
                        clear c21
                        have H' := Aside0.mk H
                        clear H
                        obtain ⟨hcz22_0, hcz22_1, hfz22_0, hfz22_1⟩ := zc2 BK197
                        have p11 : 0 ≤ (x3_2 : Int) := od
                        have q11 : x3_2 < (a0_0.size : Int) := od
                        have hx11 := bt_at a0_0 x3_2
                        replace p11 := eq_true p11
                        replace q11 := eq_true q11
                        go_wp2
                        go_roundg k2
                        case measure => have := HJ1.out; have := HK2.out; omega
                        case rel => exact ⟨(wrap64 (x3_2 + 1)), rs, H', ⟨by have := HJ1.out; have := HK2.out; omega⟩, ⟨bk BK197⟩, ⟨bq⟩⟩
                      · rw [if_neg c21] at H
                        have c21b0 : ((bt a0_0 x3_2) == 45) = false := beq_eq_false_iff_ne.mpr c21
                        have c21b1 : ((bt a0_0 x3_2) != 45) = true := bne_iff_ne.mpr c21
                        obtain rfl := Option.some.inj H
                        obtain ⟨hcz23_0, hcz23_1, hfz23_0, hfz23_1⟩ := zc2 BK197
                        have p11 : 0 ≤ (x3_2 : Int) := od
                        have q11 : x3_2 < (a0_0.size : Int) := od
                        have hx11 := bt_at a0_0 x3_2
                        replace p11 := eq_true p11
                        replace q11 := eq_true q11
                        go_wp2
                        go_ret
                        exact ⟨re, bq⟩
                · rw [if_neg c12] at H
                  have c12b0 : decide (97 ≤ (bt a0_0 x3_2)) = false := decide_eq_false c12
                  clear c12
                  by_cases c24 : (bt a0_0 x3_2) ≥ 48
                  · rw [if_pos c24] at H
                    have c24b0 : decide (48 ≤ (bt a0_0 x3_2)) = true := decide_eq_true c24
                    clear c24
                    by_cases c25 : (bt a0_0 x3_2) ≤ 57
                    · rw [if_pos c25] at H
                      have c25b0 : decide ((bt a0_0 x3_2) ≤ 57) = true := decide_eq_true c25
                      clear c25
                      have H' := Aside0.mk H
                      clear H
                      obtain ⟨hcz26_0, hcz26_1, hfz26_0, hfz26_1⟩ := zc2 BK197
                      have p11 : 0 ≤ (x3_2 : Int) := od
                      have q11 : x3_2 < (a0_0.size : Int) := od
                      have hx11 := bt_at a0_0 x3_2
                      replace p11 := eq_true p11
                      replace q11 := eq_true q11
                      go_wp2
                      go_roundg k2
                      case measure => have := HJ1.out; have := HK2.out; omega
                      case rel => exact ⟨(wrap64 (x3_2 + 1)), rs, H', ⟨by have := HJ1.out; have := HK2.out; omega⟩, ⟨bk BK197⟩, ⟨bq⟩⟩
                    · rw [if_neg c25] at H
                      have c25b0 : decide ((bt a0_0 x3_2) ≤ 57) = false := decide_eq_false c25
                      clear c25
                      by_cases c27 : ((bt a0_0 x3_2) = 45)
                      · rw [if_pos c27] at H
                        have c27b0 : ((bt a0_0 x3_2) == 45) = true := beq_iff_eq.mpr c27
                        have c27b1 : ((bt a0_0 x3_2) != 45) = false := bne_eq_false_iff_eq.mpr c27
                        clear c27
                        have H' := Aside0.mk H
                        clear H
                        obtain ⟨hcz28_0, hcz28_1, hfz28_0, hfz28_1⟩ := zc2 BK197
                        have p11 : 0 ≤ (x3_2 : Int) := od
                        have q11 : x3_2 < (a0_0.size : Int) := od
                        have hx11 := bt_at a0_0 x3_2
                        replace p11 := eq_true p11
                        replace q11 := eq_true q11
                        go_wp2
                        go_roundg k2
                        case measure => have := HJ1.out; have := HK2.out; omega
                        case rel => exact ⟨(wrap64 (x3_2 + 1)), rs, H', ⟨by have := HJ1.out; have := HK2.out; omega⟩, ⟨bk BK197⟩, ⟨bq⟩⟩
                      · rw [if_neg c27] at H
                        have c27b0 : ((bt a0_0 x3_2) == 45) = false := beq_eq_false_iff_ne.mpr c27
                        have c27b1 : ((bt a0_0 x3_2) != 45) = true := bne_iff_ne.mpr c27
                        obtain rfl := Option.some.inj H
                        obtain ⟨hcz29_0, hcz29_1, hfz29_0, hfz29_1⟩ := zc2 BK197
                        have p11 : 0 ≤ (x3_2 : Int) := od
                        have q11 : x3_2 < (a0_0.size : Int) := od
                        have hx11 := bt_at a0_0 x3_2
                        replace p11 := eq_true p11
                        replace q11 := eq_true q11
                        go_wp2
                        go_ret
                        exact ⟨re, bq⟩
                  · rw [if_neg c24] at H
                    have c24b0 : decide (48 ≤ (bt a0_0 x3_2)) = false := decide_eq_false c24
                    clear c24
                    by_cases c30 : ((bt a0_0 x3_2) = 45)
                    · rw [if_pos c30] at H
                      have c30b0 : ((bt a0_0 x3_2) == 45) = true := beq_iff_eq.mpr c30
                      have c30b1 : ((bt a0_0 x3_2) != 45) = false := bne_eq_false_iff_eq.mpr c30
                      clear c30
                      have H' := Aside0.mk H
                      clear H
                      obtain ⟨hcz31_0, hcz31_1, hfz31_0, hfz31_1⟩ := zc2 BK197
                      have p11 : 0 ≤ (x3_2 : Int) := od
                      have q11 : x3_2 < (a0_0.size : Int) := od
                      have hx11 := bt_at a0_0 x3_2
                      replace p11 := eq_true p11
                      replace q11 := eq_true q11
                      go_wp2
                      go_roundg k2
                      case measure => have := HJ1.out; have := HK2.out; omega
                      case rel => exact ⟨(wrap64 (x3_2 + 1)), rs, H', ⟨by have := HJ1.out; have := HK2.out; omega⟩, ⟨bk BK197⟩, ⟨bq⟩⟩
                    · rw [if_neg c30] at H
                      have c30b0 : ((bt a0_0 x3_2) == 45) = false := beq_eq_false_iff_ne.mpr c30
                      have c30b1 : ((bt a0_0 x3_2) != 45) = true := bne_iff_ne.mpr c30
                      obtain rfl := Option.some.inj H
                      obtain ⟨hcz32_0, hcz32_1, hfz32_0, hfz32_1⟩ := zc2 BK197
                      have p11 : 0 ≤ (x3_2 : Int) := od
                      have q11 : x3_2 < (a0_0.size : Int) := od
                      have hx11 := bt_at a0_0 x3_2
                      replace p11 := eq_true p11
                      replace q11 := eq_true q11
                      go_wp2
                      go_ret
                      exact ⟨re, bq⟩
              · rw [if_neg c10] at H
                exact absurd H (by simp)
            · rw [if_neg c9] at H
              have c9b0 : decide (x3_2 < (a0_0.size : Int)) = false := decide_eq_false c9
              clear c9
              have H' := Aside0.mk H
              clear H
              obtain ⟨hcz33_0, hcz33_1, hfz33_0, hfz33_1⟩ := zc2 BK197
              go_wp2
              go_loopg [51] k2 (fun kq v51 w' => ∃ (x51_3 : Int), v51 = .int .i64 x51_3 ∧ Aside0 (impl_ProbeTubeOk.l1 kq l0_1 (l0_1.length : Int) x51_3 = some r) ∧ Aside0 (kq ≤ k2) ∧ Aside0 (w'.heap[gb197]? = some (.cells #[.string a0_0, (.slice A0_1 l0_1.length c0_1)] 39 (0, 0))) ∧ Aside0 (Below w.heap.size w w'))
              case atStart => exact ⟨(0), rs, H', ⟨Nat.le_refl _⟩, ⟨bk BK197⟩, ⟨bq⟩⟩
              case round =>
                clear H'
                try clear c5
                try clear c8
                try clear c9
                try clear c9b0
                try clear c10
                try clear c10b0
                try clear p11
                try clear q11
                try clear hx11
                try clear c12
                try clear c12b0
                try clear c13
                try clear c13b0
                try clear c15
                try clear c15b0
                try clear c16
                try clear c16b0
                try clear c18
                try clear c18b0
                try clear c18b1
                try clear c21
                try clear c21b0
                try clear c21b1
                try clear c24
                try clear c24b0
                try clear c25
                try clear c25b0
                try clear c27
                try clear c27b0
                try clear c27b1
                try clear c30
                try clear c30b0
                try clear c30b1
                try clear hcz14_0
                try clear hcz14_1
                try clear hcz17_0
                try clear hcz17_1
                try clear hcz19_0
                try clear hcz19_1
                try clear hcz20_0
                try clear hcz20_1
                try clear hcz22_0
                try clear hcz22_1
                try clear hcz23_0
                try clear hcz23_1
                try clear hcz26_0
                try clear hcz26_1
                try clear hcz28_0
                try clear hcz28_1
                try clear hcz29_0
                try clear hcz29_1
                try clear hcz31_0
                try clear hcz31_1
                try clear hcz32_0
                try clear hcz32_1
                try clear hcz33_0
                try clear hcz33_1
                try clear hcz6_0
                try clear hcz6_1
                try clear hcz7_0
                try clear hcz7_1
                try clear hfz14_0
                try clear hfz14_1
                try clear hfz17_0
                try clear hfz17_1
                try clear hfz19_0
                try clear hfz19_1
                try clear hfz20_0
                try clear hfz20_1
                try clear hfz22_0
                try clear hfz22_1
                try clear hfz23_0
                try clear hfz23_1
                try clear hfz26_0
                try clear hfz26_1
                try clear hfz28_0
                try clear hfz28_1
                try clear hfz29_0
                try clear hfz29_1
                try clear hfz31_0
                try clear hfz31_1
                try clear hfz32_0
                try clear hfz32_1
                try clear hfz33_0
                try clear hfz33_1
                try clear hfz6_0
                try clear hfz6_1
                try clear hfz7_0
                try clear hfz7_1
                try clear p11
                try clear q11
                obtain ⟨x51_3, rfl, HA, HK3, BK197, HB⟩ := hrel
                cases gk with
                | zero => exact absurd HA.out (by simp [impl_ProbeTubeOk.l1])
                | succ k3 =>
                  have H := HA.out
                  clear HA
                  simp only [impl_ProbeTubeOk.l1] at H
                  by_cases c34 : x51_3 < (l0_1.length : Int)
                  · rw [if_pos c34] at H
                    have c34b0 : decide (x51_3 < (l0_1.length : Int)) = true := decide_eq_true c34
                    clear c34
                    by_cases c35 : 0 ≤ x51_3
                    · rw [if_pos c35] at H
                      have c35b0 : decide (0 ≤ x51_3) = true := decide_eq_true c35
                      clear c35
                      by_cases c36 : x51_3 < (l0_1.length : Int)
                      · rw [if_pos c36] at H
                        have c36b0 : decide (x51_3 < (l0_1.length : Int)) = true := decide_eq_true c36
                        clear c36
                        obtain ⟨t201, A37, H⟩ := bo H
                        by_cases c38 : t201 = true
                        · subst c38
                          replace H := it H rfl
                          have H' := Aside0.mk H
                          clear H
                          have p199 : 0 ≤ (x51_3 : Int) := od
                          have q199 : x51_3 < (l0_1.length : Int) := od
                          obtain ⟨ad199, e199, hx199_0, hx199_1, hx199_2, hx199_3, hx199_4, hx199_5⟩ := at_T26 HR0_1.out x51_3 p199 q199
                          cases e199
                          replace hx199_0 := hc HB hx199_0
                          replace hx199_1 := hc HB hx199_1
                          replace hx199_2 := hc HB hx199_2
                          replace hx199_3 := hc HB hx199_3
                          replace hx199_4 := hc HB hx199_4
                          replace hx199_5 := hc HB hx199_5
                          replace p199 := eq_true p199
                          replace q199 := eq_true q199
                          go_wp2_with (first | ((with_reducible refine gate_dst (N := 6) rfl ?_); (try (refine gate_guard (by rfl) ?_; dsimp only)); refine be 6 #[.int .i64 0, .int .i64 0, .int .i64 0, .int .i64 0, .int .i64 0, .int .i64 0] 26 ?_; intro gb200 hg w39 hbox hb; have n0 := bb (bk BK197) hb; have n1 := bs hb; have n2 := ra (hbox); have n3 := bz (w0 := w) hg; have n4 := bz (w0 := w) hg; have n5 := bn hg (bk BK197); have n6 := bm hg (bk BK197); clear BK197 HB; have BK197 := n0; have HB := n1; have BK200 := n2; have GW200 := n3; have GE200 := n4; have NB197_200 := n5; have NB200_197 := n6; clear n0 n1 n2 n3 n4 n5 n6; clear hb hbox hg; have hnb40 := NB200_197.out; have hnc40 := NB197_200.out; obtain ⟨hcz41_0, hcz41_1, hcz41_2, hcz41_3, hcz41_4, hcz41_5, hfz41_0, hfz41_1, hfz41_2, hfz41_3, hfz41_4, hfz41_5⟩ := zc6 BK200) | ((with_reducible refine gate_callee (f := 17) rfl ?_); refine gl (some 56) Try.func17 #[.agg #[.int .i64 ((rd_T26 l0_1 x51_3).f0), .int .i64 ((rd_T26 l0_1 x51_3).f1), .int .i64 ((rd_T26 l0_1 x51_3).f2), .int .i64 ((rd_T26 l0_1 x51_3).f3), .int .i64 ((rd_T26 l0_1 x51_3).f4), .int .i64 ((rd_T26 l0_1 x51_3).f5)]] ?_; (with_reducible refine (impl_ProbeBoxOk.calls ((rd_T26 l0_1 x51_3).f0) ((rd_T26 l0_1 x51_3).f1) ((rd_T26 l0_1 x51_3).f2) ((rd_T26 l0_1 x51_3).f3) ((rd_T26 l0_1 x51_3).f4) ((rd_T26 l0_1 x51_3).f5) true _ A37.out).mono ?_); rintro e w42 ⟨rfl, hb⟩; refine ⟨_, rfl, ?_⟩; have n0 := bb (bk BK197) hb; have n1 := bb (o := .cells #[.int .i64 ((rd_T26 l0_1 x51_3).f0), .int .i64 ((rd_T26 l0_1 x51_3).f1), .int .i64 ((rd_T26 l0_1 x51_3).f2), .int .i64 ((rd_T26 l0_1 x51_3).f3), .int .i64 ((rd_T26 l0_1 x51_3).f4), .int .i64 ((rd_T26 l0_1 x51_3).f5)] 26 (0, 0)) (bp BK200) hb; have n2 := bs hb; clear BK197 BK200 HB; have BK197 := n0; have BK200 := n1; have HB := n2; clear n0 n1 n2; (try clear hb); (try clear hb2); (try clear hk); (try clear hi)))
                          go_roundg k3
                          case measure => have := HJ1.out; have := HK2.out; have := HK3.out; omega
                          case rel => exact ⟨(wrap64 (x51_3 + 1)), rs, H', ⟨by have := HJ1.out; have := HK2.out; have := HK3.out; omega⟩, ⟨bk BK197⟩, ⟨bq⟩⟩
                        · replace c38 := Bool.eq_false_iff.mpr c38
                          subst c38
                          have H1 : (some false) = some r := by rw [if_neg (show ¬ (false = true) by decide)] at H; exact H
                          clear H
                          have H := H1
                          clear H1
                          obtain rfl := Option.some.inj H
                          have p199 : 0 ≤ (x51_3 : Int) := od
                          have q199 : x51_3 < (l0_1.length : Int) := od
                          obtain ⟨ad199, e199, hx199_0, hx199_1, hx199_2, hx199_3, hx199_4, hx199_5⟩ := at_T26 HR0_1.out x51_3 p199 q199
                          cases e199
                          replace hx199_0 := hc HB hx199_0
                          replace hx199_1 := hc HB hx199_1
                          replace hx199_2 := hc HB hx199_2
                          replace hx199_3 := hc HB hx199_3
                          replace hx199_4 := hc HB hx199_4
                          replace hx199_5 := hc HB hx199_5
                          replace p199 := eq_true p199
                          replace q199 := eq_true q199
                          go_wp2_with (first | ((with_reducible refine gate_dst (N := 6) rfl ?_); (try (refine gate_guard (by rfl) ?_; dsimp only)); refine be 6 #[.int .i64 0, .int .i64 0, .int .i64 0, .int .i64 0, .int .i64 0, .int .i64 0] 26 ?_; intro gb200 hg w43 hbox hb; have n0 := bb (bk BK197) hb; have n1 := bs hb; have n2 := ra (hbox); have n3 := bz (w0 := w) hg; have n4 := bz (w0 := w) hg; have n5 := bn hg (bk BK197); have n6 := bm hg (bk BK197); clear BK197 HB; have BK197 := n0; have HB := n1; have BK200 := n2; have GW200 := n3; have GE200 := n4; have NB197_200 := n5; have NB200_197 := n6; clear n0 n1 n2 n3 n4 n5 n6; clear hb hbox hg; have hnb44 := NB200_197.out; have hnc44 := NB197_200.out; obtain ⟨hcz45_0, hcz45_1, hcz45_2, hcz45_3, hcz45_4, hcz45_5, hfz45_0, hfz45_1, hfz45_2, hfz45_3, hfz45_4, hfz45_5⟩ := zc6 BK200) | ((with_reducible refine gate_callee (f := 17) rfl ?_); refine gl (some 56) Try.func17 #[.agg #[.int .i64 ((rd_T26 l0_1 x51_3).f0), .int .i64 ((rd_T26 l0_1 x51_3).f1), .int .i64 ((rd_T26 l0_1 x51_3).f2), .int .i64 ((rd_T26 l0_1 x51_3).f3), .int .i64 ((rd_T26 l0_1 x51_3).f4), .int .i64 ((rd_T26 l0_1 x51_3).f5)]] ?_; (with_reducible refine (impl_ProbeBoxOk.calls ((rd_T26 l0_1 x51_3).f0) ((rd_T26 l0_1 x51_3).f1) ((rd_T26 l0_1 x51_3).f2) ((rd_T26 l0_1 x51_3).f3) ((rd_T26 l0_1 x51_3).f4) ((rd_T26 l0_1 x51_3).f5) false _ A37.out).mono ?_); rintro e w46 ⟨rfl, hb⟩; refine ⟨_, rfl, ?_⟩; have n0 := bb (bk BK197) hb; have n1 := bb (o := .cells #[.int .i64 ((rd_T26 l0_1 x51_3).f0), .int .i64 ((rd_T26 l0_1 x51_3).f1), .int .i64 ((rd_T26 l0_1 x51_3).f2), .int .i64 ((rd_T26 l0_1 x51_3).f3), .int .i64 ((rd_T26 l0_1 x51_3).f4), .int .i64 ((rd_T26 l0_1 x51_3).f5)] 26 (0, 0)) (bp BK200) hb; have n2 := bs hb; clear BK197 BK200 HB; have BK197 := n0; have BK200 := n1; have HB := n2; clear n0 n1 n2; (try clear hb); (try clear hb2); (try clear hk); (try clear hi)))
                          go_ret
                          exact ⟨re, bq⟩
                      · rw [if_neg c36] at H
                        exact absurd H (by simp)
                    · rw [if_neg c35] at H
                      exact absurd H (by simp)
                  · rw [if_neg c34] at H
                    have c34b0 : decide (x51_3 < (l0_1.length : Int)) = false := decide_eq_false c34
                    clear c34
                    obtain rfl := Option.some.inj H
                    go_wp2
                    go_ret
                    exact ⟨re, bq⟩
end Go.Proofs.Ytfoapgcnjnogiaa.PA
