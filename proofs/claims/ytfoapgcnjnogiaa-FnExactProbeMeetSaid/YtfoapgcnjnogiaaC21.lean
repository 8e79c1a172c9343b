/- A contract of the function spec_ProbeTubeOk. (Began as a print of the kit's tool.) -/
import Derived.Test.YtfoapgcnjnogiaaPAd
import Derived.Test.YtfoapgcnjnogiaaCx
import Derived.Test.YtfoapgcnjnogiaaC53
import Derived.Test.YtfoapgcnjnogiaaC15
namespace Go.Proofs.Ytfoapgcnjnogiaa.PA
open Go.RowKit Go.Proofs.YtfoapgcnjnogiaaW.PrintWords Go.Proofs.YtfoapgcnjnogiaaW.PrintLast Go.Proofs.YtfoapgcnjnogiaaW.PrintMore Go.Proofs.Ytfoapgcnjnogiaa.Z
attribute [local go_sem] max2_int min2_int max_two min_two max_three min_three max_four min_four
set_option linter.unusedVariables false
set_option linter.unusedSimpArgs false
set_option maxHeartbeats 8000000 in
set_option maxRecDepth 100000 in
theorem spec_ProbeTubeOk.calls (k : Nat) (a0_0 : ByteArray) (A0_1 : Option Addr) (c0_1 : Nat) (l0_1 : List (S26)) (r : Bool) (w : World) (hr0_1 : Kd.C k26 w A0_1 l0_1.length l0_1) (hc0_1 : l0_1.length ≤ c0_1) (h : spec_ProbeTubeOk.f k a0_0 l0_1 = some r) :
    Calls Try.prog 21 #[.agg #[.string a0_0, .slice A0_1 l0_1.length c0_1]] w fun e w' => e = .returned (.bool r) ∧ Below w.heap.size w w' := by
  have hu39 := Try.underlying39
  have hu26 := Try.underlying26
  have HR0_1 := Aside0.mk hr0_1
  have HC0_1 := Aside0.mk hc0_1
  clear hr0_1 hc0_1
  have HB := ra (Below.refl w.heap.size w)
  have H : ((spec_l2NameOk.f k a0_0).bind fun t177 => (if t177 = true then (spec_ProbeTubeOk.j0 k (decide ((l0_1.length : Int) > 40)) a0_0 l0_1) else (spec_ProbeTubeOk.j0 k true a0_0 l0_1))) = some r := h
  clear h
  have HC2 := Aside0.mk H
  clear H
  go_enter Try.func21, Try.ntmps21
  go_upto_region 1 with (first | ((with_reducible refine gate_dst (N := 1) rfl ?_); (try (refine gate_guard (by rfl) ?_; dsimp only)); refine be 1 #[.string a0_0, .slice A0_1 l0_1.length c0_1] 39 ?_; intro gb176 hg w3 hbox hb; have n0 := bs hb; have n1 := ra (hbox); have n2 := bz (w0 := w) hg; have n3 := bz (w0 := w) hg; clear HB; have HB := n0; have BK176 := n1; have GW176 := n2; have GE176 := n3; clear n0 n1 n2 n3; clear hb hbox hg))
  (try simp only [Act.put, List.setIfInBounds_toArray, List.set_cons_zero, List.set_cons_succ])
  go_cut [13] (fun v13 wc => ∃ (kq : Nat) (x13_1 : Bool), v13 = .bool x13_1 ∧ Aside0 (spec_ProbeTubeOk.j0 kq x13_1 a0_0 l0_1 = some r) ∧ Aside0 (kq ≤ k) ∧ Aside0 (wc.heap[gb176]? = some (.cells #[.string a0_0, (.slice A0_1 l0_1.length c0_1)] 39 (0, 0))) ∧ Aside0 (Below w.heap.size w wc))
  case first =>
    have H := HC2.out
    clear HC2
    obtain ⟨t177, A4, H⟩ := bo H
    by_cases c5 : t177 = true
    · subst c5
      replace H := it H rfl
      have H' := Aside0.mk H
      clear H
      obtain ⟨hcz6_0, hcz6_1, hfz6_0, hfz6_1⟩ := zc2 BK176
      go_wp2_with (first | ((with_reducible refine gate_callee (f := 53) rfl ?_); refine gl (some 6) Try.func53 #[.string a0_0] ?_; (with_reducible refine (spec_l2NameOk.calls k a0_0 true _ A4.out).mono ?_); rintro e w' ⟨rfl, ⟨nd, rfl⟩⟩; refine ⟨_, rfl, ?_⟩))
      go_meet
      case rel => exact ⟨_, (decide ((l0_1.length : Int) > 40)), rs, H', ⟨by first | omega | exact Nat.le_refl _⟩, ⟨bk BK176⟩, ⟨bq⟩⟩
    · replace c5 := Bool.eq_false_iff.mpr c5
      subst c5
      have H1 : (spec_ProbeTubeOk.j0 k true a0_0 l0_1) = some r := by rw [if_neg (show ¬ (false = true) by decide)] at H; exact H
      clear H
      have H := H1
      clear H1
      have H' := Aside0.mk H
      clear H
      obtain ⟨hcz7_0, hcz7_1, hfz7_0, hfz7_1⟩ := zc2 BK176
      go_wp2_with (first | ((with_reducible refine gate_callee (f := 53) rfl ?_); refine gl (some 6) Try.func53 #[.string a0_0] ?_; (with_reducible refine (spec_l2NameOk.calls k a0_0 false _ A4.out).mono ?_); rintro e w' ⟨rfl, ⟨nd, rfl⟩⟩; refine ⟨_, rfl, ?_⟩))
      go_meet
      case rel => exact ⟨_, (true), rs, H', ⟨by first | omega | exact Nat.le_refl _⟩, ⟨bk BK176⟩, ⟨bq⟩⟩
  case rest =>
    clear HC2
    try clear c5
    try clear hcz6_0
    try clear hcz6_1
    try clear hcz7_0
    try clear hcz7_1
    try clear hfz6_0
    try clear hfz6_1
    try clear hfz7_0
    try clear hfz7_1
    obtain ⟨kq, x13_1, rfl, HA, HJ1, BK176, HB⟩ := hcut
    cases kq with
    | zero => exact absurd HA.out (by simp [spec_ProbeTubeOk.j0])
    | succ kj1 =>
      have H := HA.out
      clear HA
      simp only [spec_ProbeTubeOk.j0] at H
      by_cases c8 : x13_1 = true
      · subst c8
        replace H := it H rfl
        obtain rfl := Option.some.inj H
        go_wp2
        go_ret
        exact ⟨re, bq⟩
      · replace c8 := Bool.eq_false_iff.mpr c8
        subst c8
        have H1 : (spec_ProbeTubeOk.l0 kj1 0 a0_0 l0_1) = some r := by rw [if_neg (show ¬ (false = true) by decide)] at H; exact H
        clear H
        have H := H1
        clear H1
        have H' := Aside0.mk H
        clear H
        go_wp2
        go_loopg [3] kj1 (fun kq v3 w' => ∃ (x3_2 : Int), v3 = .int .i64 x3_2 ∧ Aside0 (spec_ProbeTubeOk.l0 kq x3_2 a0_0 l0_1 = some r) ∧ Aside0 (kq ≤ kj1) ∧ Aside0 (w'.heap[gb176]? = some (.cells #[.string a0_0, (.slice A0_1 l0_1.length c0_1)] 39 (0, 0))) ∧ Aside0 (Below w.heap.size w w'))
        case atStart => exact ⟨(0), rs, H', ⟨Nat.le_refl _⟩, ⟨bk BK176⟩, ⟨bq⟩⟩
        case round =>
          clear H'
          try clear c5
          try clear c8
          try clear hcz6_0
          try clear hcz6_1
          try clear hcz7_0
          try clear hcz7_1
          try clear hfz6_0
          try clear hfz6_1
          try clear hfz7_0
          try clear hfz7_1
          obtain ⟨x3_2, rfl, HA, HK2, BK176, HB⟩ := hrel
          cases gk with
          | zero => exact absurd HA.out (by simp [spec_ProbeTubeOk.l0])
          | succ k2 =>
            have H := HA.out
            clear HA
            simp only [spec_ProbeTubeOk.l0] at H
            by_cases c9 : x3_2 < (l0_1.length : Int)
            · rw [if_pos c9] at H
              have c9b0 : decide (x3_2 < (l0_1.length : Int)) = true := decide_eq_true c9
              clear c9
              by_cases c10 : 0 ≤ x3_2
              · rw [if_pos c10] at H
                have c10b0 : decide (0 ≤ x3_2) = true := decide_eq_true c10
                clear c10
                obtain ⟨t179, A11, H⟩ := bo H
                by_cases c12 : t179 = true
                · subst c12
                  replace H := it H rfl
                  have H' := Aside0.mk H
                  clear H
                  obtain ⟨hcz13_0, hcz13_1, hfz13_0, hfz13_1⟩ := zc2 BK176
                  have p178 : 0 ≤ (x3_2 : Int) := od
                  have q178 : x3_2 < (l0_1.length : Int) := od
                  obtain ⟨ad178, e178, hx178_0, hx178_1, hx178_2, hx178_3, hx178_4, hx178_5⟩ := at_T26 HR0_1.out x3_2 p178 q178
                  cases e178
                  replace hx178_0 := hc HB hx178_0
                  replace hx178_1 := hc HB hx178_1
                  replace hx178_2 := hc HB hx178_2
                  replace hx178_3 := hc HB hx178_3
                  replace hx178_4 := hc HB hx178_4
                  replace hx178_5 := hc HB hx178_5
                  replace p178 := eq_true p178
                  replace q178 := eq_true q178
                  go_wp2_with (first | ((with_reducible refine gate_callee (f := 15) rfl ?_); refine gl (some 26) Try.func15 #[.agg #[.int .i64 ((rd_T26 l0_1 x3_2).f0), .int .i64 ((rd_T26 l0_1 x3_2).f1), .int .i64 ((rd_T26 l0_1 x3_2).f2), .int .i64 ((rd_T26 l0_1 x3_2).f3), .int .i64 ((rd_T26 l0_1 x3_2).f4), .int .i64 ((rd_T26 l0_1 x3_2).f5)]] ?_; (with_reducible refine (spec_ProbeBoxOk.calls ((rd_T26 l0_1 x3_2).f0) ((rd_T26 l0_1 x3_2).f1) ((rd_T26 l0_1 x3_2).f2) ((rd_T26 l0_1 x3_2).f3) ((rd_T26 l0_1 x3_2).f4) ((rd_T26 l0_1 x3_2).f5) true _ A11.out).mono ?_); rintro e w14 ⟨rfl, hb⟩; refine ⟨_, rfl, ?_⟩; have n0 := bb (bk BK176) hb; have n1 := bs hb; clear BK176 HB; have BK176 := n0; have HB := n1; clear n0 n1; (try clear hb); (try clear hb2); (try clear hk); (try clear hi)))
                  go_roundg k2
                  case measure => have := HJ1.out; have := HK2.out; omega
                  case rel => exact ⟨(wrap64 (x3_2 + 1)), rs, H', ⟨by have := HJ1.out; have := HK2.out; omega⟩, ⟨bk BK176⟩, ⟨bq⟩⟩
                · replace c12 := Bool.eq_false_iff.mpr c12
                  subst c12
                  have H1 : (some false) = some r := by rw [if_neg (show ¬ (false = true) by decide)] at H; exact H
                  clear H
                  have H := H1
                  clear H1
                  obtain rfl := Option.some.inj H
                  obtain ⟨hcz15_0, hcz15_1, hfz15_0, hfz15_1⟩ := zc2 BK176
                  have p178 : 0 ≤ (x3_2 : Int) := od
                  have q178 : x3_2 < (l0_1.length : Int) := od
                  obtain ⟨ad178, e178, hx178_0, hx178_1, hx178_2, hx178_3, hx178_4, hx178_5⟩ := at_T26 HR0_1.out x3_2 p178 q178
                  cases e178
                  replace hx178_0 := hc HB hx178_0
                  replace hx178_1 := hc HB hx178_1
                  replace hx178_2 := hc HB hx178_2
                  replace hx178_3 := hc HB hx178_3
                  replace hx178_4 := hc HB hx178_4
                  replace hx178_5 := hc HB hx178_5
                  replace p178 := eq_true p178
                  replace q178 := eq_true q178
                  go_wp2_with (first | ((with_reducible refine gate_callee (f := 15) rfl ?_); refine gl (some 26) Try.func15 #[.agg #[.int .i64 ((rd_T26 l0_1 x3_2).f0), .int .i64 ((rd_T26 l0_1 x3_2).f1), .int .i64 ((rd_T26 l0_1 x3_2).f2), .int .i64 ((rd_T26 l0_1 x3_2).f3), .int .i64 ((rd_T26 l0_1 x3_2).f4), .int .i64 ((rd_T26 l0_1 x3_2).f5)]] ?_; (with_reducible refine (spec_ProbeBoxOk.calls ((rd_T26 l0_1 x3_2).f0) ((rd_T26 l0_1 x3_2).f1) ((rd_T26 l0_1 x3_2).f2) ((rd_T26 l0_1 x3_2).f3) ((rd_T26 l0_1 x3_2).f4) ((rd_T26 l0_1 x3_2).f5) false _ A11.out).mono ?_); rintro e w16 ⟨rfl, hb⟩; refine ⟨_, rfl, ?_⟩; have n0 := bb (bk BK176) hb; have n1 := bs hb; clear BK176 HB; have BK176 := n0; have HB := n1; clear n0 n1; (try clear hb); (try clear hb2); (try clear hk); (try clear hi)))
                  go_ret
                  exact ⟨re, bq⟩
              · rw [if_neg c10] at H
                exact absurd H (by simp)
            · rw [if_neg c9] at H
              have c9b0 : decide (x3_2 < (l0_1.length : Int)) = false := decide_eq_false c9
              clear c9
              obtain rfl := Option.some.inj H
              obtain ⟨hcz17_0, hcz17_1, hfz17_0, hfz17_1⟩ := zc2 BK176
              go_wp2
              go_ret
              exact ⟨re, bq⟩
end Go.Proofs.Ytfoapgcnjnogiaa.PA
