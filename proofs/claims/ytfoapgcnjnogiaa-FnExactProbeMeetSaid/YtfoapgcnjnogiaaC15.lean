/- A contract of the function spec_ProbeBoxOk. (Began as a print of the kit's tool.) -/
import Derived.Test.YtfoapgcnjnogiaaPAd
import Derived.Test.YtfoapgcnjnogiaaCx
import Derived.Test.YtfoapgcnjnogiaaC49
namespace Go.Proofs.Ytfoapgcnjnogiaa.PA
open Go.RowKit Go.Proofs.YtfoapgcnjnogiaaW.PrintWords Go.Proofs.YtfoapgcnjnogiaaW.PrintLast Go.Proofs.YtfoapgcnjnogiaaW.PrintMore Go.Proofs.Ytfoapgcnjnogiaa.Z
attribute [local go_sem] max2_int min2_int max_two min_two max_three min_three max_four min_four
set_option linter.unusedVariables false
set_option linter.unusedSimpArgs false
set_option maxHeartbeats 8000000 in
set_option maxRecDepth 100000 in
theorem spec_ProbeBoxOk.calls (a0_0 : Int) (a0_1 : Int) (a0_2 : Int) (a0_3 : Int) (a0_4 : Int) (a0_5 : Int) (r : Bool) (w : World) (h : spec_ProbeBoxOk.f a0_0 a0_1 a0_2 a0_3 a0_4 a0_5 = some r) :
    Calls Try.prog 15 #[.agg #[.int .i64 a0_0, .int .i64 a0_1, .int .i64 a0_2, .int .i64 a0_3, .int .i64 a0_4, .int .i64 a0_5]] w fun e w' => e = .returned (.bool r) ∧ Below w.heap.size w w' := by
  have hu26 := Try.underlying26
  have HB := ra (Below.refl w.heap.size w)
  have H : ((spec_l1In.f a0_0 0 15).bind fun t102 => (if t102 = true then ((spec_l1In.f a0_1 0 15).bind fun t103 => (if t103 = true then ((spec_l1In.f a0_2 0 a0_3).bind fun t104 => (if t104 = true then (if a0_3 ≤ 6 then ((spec_l1In.f a0_4 0 a0_5).bind fun t105 => (if t105 = true then (some (decide (a0_5 ≤ 10000))) else (some false))) else (some false)) else (some false))) else (some false))) else (some false))) = some r := h
  clear h
  obtain ⟨t102, A2, H⟩ := bo H
  by_cases c3 : t102 = true
  · subst c3
    replace H := it H rfl
    obtain ⟨t103, A4, H⟩ := bo H
    by_cases c5 : t103 = true
    · subst c5
      replace H := it H rfl
      obtain ⟨t104, A6, H⟩ := bo H
      by_cases c7 : t104 = true
      · subst c7
        replace H := it H rfl
        by_cases c8 : a0_3 ≤ 6
        · rw [if_pos c8] at H
          have c8b0 : decide (a0_3 ≤ 6) = true := decide_eq_true c8
          clear c8
          obtain ⟨t105, A9, H⟩ := bo H
          by_cases c10 : t105 = true
          · subst c10
            replace H := it H rfl
            obtain rfl := Option.some.inj H
            go_enter Try.func15, Try.ntmps15
            go_wp2_with (first | ((with_reducible refine gate_dst (N := 1) rfl ?_); refine be 1 #[.int .i64 a0_0, .int .i64 a0_1, .int .i64 a0_2, .int .i64 a0_3, .int .i64 a0_4, .int .i64 a0_5] 26 ?_; intro gb101 hg w11 hbox hb; have n0 := bs hb; have n1 := ra (hbox); have n2 := bz (w0 := w) hg; have n3 := bz (w0 := w) hg; clear HB; have HB := n0; have BK101 := n1; have GW101 := n2; have GE101 := n3; clear n0 n1 n2 n3; clear hb hbox hg; obtain ⟨hcz12_0, hcz12_1, hcz12_2, hcz12_3, hcz12_4, hcz12_5, hfz12_0, hfz12_1, hfz12_2, hfz12_3, hfz12_4, hfz12_5⟩ := zc6 BK101) | ((with_reducible refine gate_callee (f := 49) rfl ?_); refine gl (some 5) Try.func49 #[.int .i64 a0_0, .int .i64 0, .int .i64 15] ?_; (with_reducible refine (spec_l1In.calls a0_0 0 15 true _ A2.out).mono ?_); rintro e w' ⟨rfl, ⟨nd, rfl⟩⟩; refine ⟨_, rfl, ?_⟩) | (go_at_call 49; (with_reducible refine (spec_l1In.calls a0_1 0 15 true _ A4.out).mono ?_); rintro e w' ⟨rfl, ⟨nd, rfl⟩⟩) | (go_at_call 49; (with_reducible refine (spec_l1In.calls a0_2 0 a0_3 true _ A6.out).mono ?_); rintro e w' ⟨rfl, ⟨nd, rfl⟩⟩) | (go_at_call 49; (with_reducible refine (spec_l1In.calls a0_4 0 a0_5 true _ A9.out).mono ?_); rintro e w' ⟨rfl, ⟨nd, rfl⟩⟩))
            go_ret
            exact ⟨re, bq⟩
          · replace c10 := Bool.eq_false_iff.mpr c10
            subst c10
            have H1 : (some false) = some r := by rw [if_neg (show ¬ (false = true) by decide)] at H; exact H
            clear H
            have H := H1
            clear H1
            obtain rfl := Option.some.inj H
            go_enter Try.func15, Try.ntmps15
            go_wp2_with (first | ((with_reducible refine gate_dst (N := 1) rfl ?_); refine be 1 #[.int .i64 a0_0, .int .i64 a0_1, .int .i64 a0_2, .int .i64 a0_3, .int .i64 a0_4, .int .i64 a0_5] 26 ?_; intro gb101 hg w13 hbox hb; have n0 := bs hb; have n1 := ra (hbox); have n2 := bz (w0 := w) hg; have n3 := bz (w0 := w) hg; clear HB; have HB := n0; have BK101 := n1; have GW101 := n2; have GE101 := n3; clear n0 n1 n2 n3; clear hb hbox hg; obtain ⟨hcz14_0, hcz14_1, hcz14_2, hcz14_3, hcz14_4, hcz14_5, hfz14_0, hfz14_1, hfz14_2, hfz14_3, hfz14_4, hfz14_5⟩ := zc6 BK101) | ((with_reducible refine gate_callee (f := 49) rfl ?_); refine gl (some 5) Try.func49 #[.int .i64 a0_0, .int .i64 0, .int .i64 15] ?_; (with_reducible refine (spec_l1In.calls a0_0 0 15 true _ A2.out).mono ?_); rintro e w' ⟨rfl, ⟨nd, rfl⟩⟩; refine ⟨_, rfl, ?_⟩) | (go_at_call 49; (with_reducible refine (spec_l1In.calls a0_1 0 15 true _ A4.out).mono ?_); rintro e w' ⟨rfl, ⟨nd, rfl⟩⟩) | (go_at_call 49; (with_reducible refine (spec_l1In.calls a0_2 0 a0_3 true _ A6.out).mono ?_); rintro e w' ⟨rfl, ⟨nd, rfl⟩⟩) | (go_at_call 49; (with_reducible refine (spec_l1In.calls a0_4 0 a0_5 false _ A9.out).mono ?_); rintro e w' ⟨rfl, ⟨nd, rfl⟩⟩))
            go_ret
            exact ⟨re, bq⟩
        · rw [if_neg c8] at H
          have c8b0 : decide (a0_3 ≤ 6) = false := decide_eq_false c8
          clear c8
          obtain rfl := Option.some.inj H
          go_enter Try.func15, Try.ntmps15
          go_wp2_with (first | ((with_reducible refine gate_dst (N := 1) rfl ?_); refine be 1 #[.int .i64 a0_0, .int .i64 a0_1, .int .i64 a0_2, .int .i64 a0_3, .int .i64 a0_4, .int .i64 a0_5] 26 ?_; intro gb101 hg w15 hbox hb; have n0 := bs hb; have n1 := ra (hbox); have n2 := bz (w0 := w) hg; have n3 := bz (w0 := w) hg; clear HB; have HB := n0; have BK101 := n1; have GW101 := n2; have GE101 := n3; clear n0 n1 n2 n3; clear hb hbox hg; obtain ⟨hcz16_0, hcz16_1, hcz16_2, hcz16_3, hcz16_4, hcz16_5, hfz16_0, hfz16_1, hfz16_2, hfz16_3, hfz16_4, hfz16_5⟩ := zc6 BK101) | ((with_reducible refine gate_callee (f := 49) rfl ?_); refine gl (some 5) Try.func49 #[.int .i64 a0_0, .int .i64 0, .int .i64 15] ?_; (with_reducible refine (spec_l1In.calls a0_0 0 15 true _ A2.out).mono ?_); rintro e w' ⟨rfl, ⟨nd, rfl⟩⟩; refine ⟨_, rfl, ?_⟩) | (go_at_call 49; (with_reducible refine (spec_l1In.calls a0_1 0 15 true _ A4.out).mono ?_); rintro e w' ⟨rfl, ⟨nd, rfl⟩⟩) | (go_at_call 49; (with_reducible refine (spec_l1In.calls a0_2 0 a0_3 true _ A6.out).mono ?_); rintro e w' ⟨rfl, ⟨nd, rfl⟩⟩))
          go_ret
          exact ⟨re, bq⟩
      · replace c7 := Bool.eq_false_iff.mpr c7
        subst c7
        have H1 : (some false) = some r := by rw [if_neg (show ¬ (false = true) by decide)] at H; exact H
        clear H
        have H := H1
        clear H1
        obtain rfl := Option.some.inj H
        go_enter Try.func15, Try.ntmps15
        go_wp2_with (first | ((with_reducible refine gate_dst (N := 1) rfl ?_); refine be 1 #[.int .i64 a0_0, .int .i64 a0_1, .int .i64 a0_2, .int .i64 a0_3, .int .i64 a0_4, .int .i64 a0_5] 26 ?_; intro gb101 hg w17 hbox hb; have n0 := bs hb; have n1 := ra (hbox); have n2 := bz (w0 := w) hg; have n3 := bz (w0 := w) hg; clear HB; have HB := n0; have BK101 := n1; have GW101 := n2; have GE101 := n3; clear n0 n1 n2 n3; clear hb hbox hg; obtain ⟨hcz18_0, hcz18_1, hcz18_2, hcz18_3, hcz18_4, hcz18_5, hfz18_0, hfz18_1, hfz18_2, hfz18_3, hfz18_4, hfz18_5⟩ := zc6 BK101) | ((with_reducible refine gate_callee (f := 49) rfl ?_); refine gl (some 5) Try.func49 #[.int .i64 a0_0, .int .i64 0, .int .i64 15] ?_; (with_reducible refine (spec_l1In.calls a0_0 0 15 true _ A2.out).mono ?_); rintro e w' ⟨rfl, ⟨nd, rfl⟩⟩; refine ⟨_, rfl, ?_⟩) | (go_at_call 49; (with_reducible refine (spec_l1In.calls a0_1 0 15 true _ A4.out).mono ?_); rintro e w' ⟨rfl, ⟨nd, rfl⟩⟩) | (go_at_call 49; (with_reducible refine (spec_l1In.calls a0_2 0 a0_3 false _ A6.out).mono ?_); rintro e w' ⟨rfl, ⟨nd, rfl⟩⟩))
        go_ret
        exact ⟨re, bq⟩
    · replace c5 := Bool.eq_false_iff.mpr c5
      subst c5
      have H1 : (some false) = some r := by rw [if_neg (show ¬ (false = true) by decide)] at H; exact H
      clear H
      have H := H1
      clear H1
      obtain rfl := Option.some.inj H
      go_enter Try.func15, Try.ntmps15
      go_wp2_with (first | ((with_reducible refine gate_dst (N := 1) rfl ?_); refine be 1 #[.int .i64 a0_0, .int .i64 a0_1, .int .i64 a0_2, .int .i64 a0_3, .int .i64 a0_4, .int .i64 a0_5] 26 ?_; intro gb101 hg w19 hbox hb; have n0 := bs hb; have n1 := ra (hbox); have n2 := bz (w0 := w) hg; have n3 := bz (w0 := w) hg; clear HB; have HB := n0; have BK101 := n1; have GW101 := n2; have GE101 := n3; clear n0 n1 n2 n3; clear hb hbox hg; obtain ⟨hcz20_0, hcz20_1, hcz20_2, hcz20_3, hcz20_4, hcz20_5, hfz20_0, hfz20_1, hfz20_2, hfz20_3, hfz20_4, hfz20_5⟩ := zc6 BK101) | ((with_reducible refine gate_callee (f := 49) rfl ?_); refine gl (some 5) Try.func49 #[.int .i64 a0_0, .int .i64 0, .int .i64 15] ?_; (with_reducible refine (spec_l1In.calls a0_0 0 15 true _ A2.out).mono ?_); rintro e w' ⟨rfl, ⟨nd, rfl⟩⟩; refine ⟨_, rfl, ?_⟩) | (go_at_call 49; (with_reducible refine (spec_l1In.calls a0_1 0 15 false _ A4.out).mono ?_); rintro e w' ⟨rfl, ⟨nd, rfl⟩⟩))
      go_ret
      exact ⟨re, bq⟩
  · replace c3 := Bool.eq_false_iff.mpr c3
    subst c3
    have H1 : (some false) = some r := by rw [if_neg (show ¬ (false = true) by decide)] at H; exact H
    clear H
    have H := H1
    clear H1
    obtain rfl := Option.some.inj H
    go_enter Try.func15, Try.ntmps15
    go_wp2_with (first | ((with_reducible refine gate_dst (N := 1) rfl ?_); refine be 1 #[.int .i64 a0_0, .int .i64 a0_1, .int .i64 a0_2, .int .i64 a0_3, .int .i64 a0_4, .int .i64 a0_5] 26 ?_; intro gb101 hg w21 hbox hb; have n0 := bs hb; have n1 := ra (hbox); have n2 := bz (w0 := w) hg; have n3 := bz (w0 := w) hg; clear HB; have HB := n0; have BK101 := n1; have GW101 := n2; have GE101 := n3; clear n0 n1 n2 n3; clear hb hbox hg; obtain ⟨hcz22_0, hcz22_1, hcz22_2, hcz22_3, hcz22_4, hcz22_5, hfz22_0, hfz22_1, hfz22_2, hfz22_3, hfz22_4, hfz22_5⟩ := zc6 BK101) | ((with_reducible refine gate_callee (f := 49) rfl ?_); refine gl (some 5) Try.func49 #[.int .i64 a0_0, .int .i64 0, .int .i64 15] ?_; (with_reducible refine (spec_l1In.calls a0_0 0 15 false _ A2.out).mono ?_); rintro e w' ⟨rfl, ⟨nd, rfl⟩⟩; refine ⟨_, rfl, ?_⟩))
    go_ret
    exact ⟨re, bq⟩
end Go.Proofs.Ytfoapgcnjnogiaa.PA
