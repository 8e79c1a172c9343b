/- A contract of the function spec_ProbeClose. (Began as a print of the kit's tool.) -/
import Derived.Test.YtfoapgcnjnogiaaPAd
import Derived.Test.YtfoapgcnjnogiaaCx
import Derived.Test.YtfoapgcnjnogiaaC15
import Derived.Test.YtfoapgcnjnogiaaC51
namespace Go.Proofs.Ytfoapgcnjnogiaa.PA
open Go.RowKit Go.Proofs.YtfoapgcnjnogiaaW.PrintWords Go.Proofs.YtfoapgcnjnogiaaW.PrintLast Go.Proofs.YtfoapgcnjnogiaaW.PrintMore Go.Proofs.Ytfoapgcnjnogiaa.Z
attribute [local go_sem] max2_int min2_int max_two min_two max_three min_three max_four min_four
set_option linter.unusedVariables false
set_option linter.unusedSimpArgs false
set_option maxHeartbeats 8000000 in
set_option maxRecDepth 100000 in
theorem spec_ProbeClose.calls (k : Nat) (a0_0 : Int) (a0_1 : Int) (a0_2 : Int) (a0_3 : Int) (a0_4 : Int) (a0_5 : Int) (a1_0 : Int) (a1_1 : Int) (a1_2 : Int) (a1_3 : Int) (a1_4 : Int) (a1_5 : Int) (r1 : Int) (r2 : Bool) (w : World) (h : spec_ProbeClose.f k a0_0 a0_1 a0_2 a0_3 a0_4 a0_5 a1_0 a1_1 a1_2 a1_3 a1_4 a1_5 = some (r1, r2)) :
    Calls Try.prog 18 #[.agg #[.int .i64 a0_0, .int .i64 a0_1, .int .i64 a0_2, .int .i64 a0_3, .int .i64 a0_4, .int .i64 a0_5], .agg #[.int .i64 a1_0, .int .i64 a1_1, .int .i64 a1_2, .int .i64 a1_3, .int .i64 a1_4, .int .i64 a1_5]] w fun e w' => e = .returned (.tuple #[.int .i64 r1, .bool r2]) ∧ Below w.heap.size w w' := by
  have hu26 := Try.underlying26
  have HB := ra (Below.refl w.heap.size w)
  have H : ((spec_ProbeBoxOk.f a0_0 a0_1 a0_2 a0_3 a0_4 a0_5).bind fun t133 => (if t133 = true then ((spec_ProbeBoxOk.f a1_0 a1_1 a1_2 a1_3 a1_4 a1_5).bind fun t134 => (if t134 = true then ((spec_l1Close.f k a0_0 a0_1 a0_2 a0_3 a0_4 a0_5 a1_0 a1_1 a1_2 a1_3 a1_4 a1_5).bind fun bt135 => (some (bt135.1, bt135.2))) else (some (0, false)))) else (some (0, false)))) = some (r1, r2) := h
  clear h
  obtain ⟨t133, A3, H⟩ := bo H
  by_cases c4 : t133 = true
  · subst c4
    replace H := it H rfl
    obtain ⟨t134, A5, H⟩ := bo H
    by_cases c6 : t134 = true
    · subst c6
      replace H := it H rfl
      obtain ⟨⟨t135, t136⟩, A7, H⟩ := bo H
      try dsimp only at H
      simp only [Option.some.injEq, Prod.mk.injEq] at H
      obtain ⟨rfl, rfl⟩ := H
      go_enter Try.func18, Try.ntmps18
      go_wp2_with (first | ((with_reducible refine gate_dst (N := 2) rfl ?_); refine be 2 #[.int .i64 a0_0, .int .i64 a0_1, .int .i64 a0_2, .int .i64 a0_3, .int .i64 a0_4, .int .i64 a0_5] 26 ?_; intro gb131 hg w8 hbox hb; have n0 := bs hb; have n1 := ra (hbox); have n2 := bz (w0 := w) hg; have n3 := bz (w0 := w) hg; clear HB; have HB := n0; have BK131 := n1; have GW131 := n2; have GE131 := n3; clear n0 n1 n2 n3; clear hb hbox hg) | ((with_reducible refine gate_dst (N := 3) rfl ?_); refine be 3 #[.int .i64 a1_0, .int .i64 a1_1, .int .i64 a1_2, .int .i64 a1_3, .int .i64 a1_4, .int .i64 a1_5] 26 ?_; intro gb132 hg w9 hbox hb; have n0 := bb (bk BK131) hb; have n1 := bs hb; have n2 := ra (hbox); have n3 := bz (w0 := w) hg; have n4 := bz (w0 := w) hg; have n5 := bn hg (bk BK131); have n6 := bm hg (bk BK131); clear BK131 HB; have BK131 := n0; have HB := n1; have BK132 := n2; have GW132 := n3; have GE132 := n4; have NB131_132 := n5; have NB132_131 := n6; clear n0 n1 n2 n3 n4 n5 n6; clear hb hbox hg; have hnb10 := NB131_132.out; have hnc10 := NB132_131.out; obtain ⟨hcz11_0, hcz11_1, hcz11_2, hcz11_3, hcz11_4, hcz11_5, hfz11_0, hfz11_1, hfz11_2, hfz11_3, hfz11_4, hfz11_5⟩ := zc6 BK131) | ((with_reducible refine gate_callee (f := 15) rfl ?_); refine gl (some 7) Try.func15 #[.agg #[.int .i64 a0_0, .int .i64 a0_1, .int .i64 a0_2, .int .i64 a0_3, .int .i64 a0_4, .int .i64 a0_5]] ?_; (with_reducible refine (spec_ProbeBoxOk.calls a0_0 a0_1 a0_2 a0_3 a0_4 a0_5 true _ A3.out).mono ?_); rintro e w12 ⟨rfl, hb⟩; refine ⟨_, rfl, ?_⟩; have n0 := bb (bk BK131) hb; have n1 := bb (bk BK132) hb; have n2 := bs hb; clear BK131 BK132 HB; have BK131 := n0; have BK132 := n1; have HB := n2; clear n0 n1 n2; (try clear hb); (try clear hb2); (try clear hk); (try clear hi); obtain ⟨hcz13_0, hcz13_1, hcz13_2, hcz13_3, hcz13_4, hcz13_5, hfz13_0, hfz13_1, hfz13_2, hfz13_3, hfz13_4, hfz13_5⟩ := zc6 BK132) | (go_at_call 15; (with_reducible refine (spec_ProbeBoxOk.calls a1_0 a1_1 a1_2 a1_3 a1_4 a1_5 true _ A5.out).mono ?_); rintro e w14 ⟨rfl, hb⟩; have n0 := bb (bk BK131) hb; have n1 := bb (bk BK132) hb; have n2 := bs hb; clear BK131 BK132 HB; have BK131 := n0; have BK132 := n1; have HB := n2; clear n0 n1 n2; (try clear hb); (try clear hb2); (try clear hk); (try clear hi); obtain ⟨hcz15_0, hcz15_1, hcz15_2, hcz15_3, hcz15_4, hcz15_5, hfz15_0, hfz15_1, hfz15_2, hfz15_3, hfz15_4, hfz15_5⟩ := zc6 BK131; obtain ⟨hcz16_0, hcz16_1, hcz16_2, hcz16_3, hcz16_4, hcz16_5, hfz16_0, hfz16_1, hfz16_2, hfz16_3, hfz16_4, hfz16_5⟩ := zc6 BK132) | ((with_reducible refine gate_callee (f := 51) rfl ?_); refine gl (some 16) Try.func51 #[.agg #[.int .i64 a0_0, .int .i64 a0_1, .int .i64 a0_2, .int .i64 a0_3, .int .i64 a0_4, .int .i64 a0_5], .agg #[.int .i64 a1_0, .int .i64 a1_1, .int .i64 a1_2, .int .i64 a1_3, .int .i64 a1_4, .int .i64 a1_5]] ?_; (with_reducible refine (spec_l1Close.calls k a0_0 a0_1 a0_2 a0_3 a0_4 a0_5 a1_0 a1_1 a1_2 a1_3 a1_4 a1_5 t135 t136 _ A7.out).mono ?_); rintro e w17 ⟨rfl, hb⟩; refine ⟨_, rfl, ?_⟩; have n0 := bb (bk BK131) hb; have n1 := bb (bk BK132) hb; have n2 := bs hb; clear BK131 BK132 HB; have BK131 := n0; have BK132 := n1; have HB := n2; clear n0 n1 n2; (try clear hb); (try clear hb2); (try clear hk); (try clear hi)))
      go_ret2
      exact ⟨re, bq⟩
    · replace c6 := Bool.eq_false_iff.mpr c6
      subst c6
      have H1 : (some (0, false)) = some (r1, r2) := by rw [if_neg (show ¬ (false = true) by decide)] at H; exact H
      clear H
      have H := H1
      clear H1
      simp only [Option.some.injEq, Prod.mk.injEq] at H
      obtain ⟨rfl, rfl⟩ := H
      go_enter Try.func18, Try.ntmps18
      go_wp2_with (first | ((with_reducible refine gate_dst (N := 2) rfl ?_); refine be 2 #[.int .i64 a0_0, .int .i64 a0_1, .int .i64 a0_2, .int .i64 a0_3, .int .i64 a0_4, .int .i64 a0_5] 26 ?_; intro gb131 hg w18 hbox hb; have n0 := bs hb; have n1 := ra (hbox); have n2 := bz (w0 := w) hg; have n3 := bz (w0 := w) hg; clear HB; have HB := n0; have BK131 := n1; have GW131 := n2; have GE131 := n3; clear n0 n1 n2 n3; clear hb hbox hg) | ((with_reducible refine gate_dst (N := 3) rfl ?_); refine be 3 #[.int .i64 a1_0, .int .i64 a1_1, .int .i64 a1_2, .int .i64 a1_3, .int .i64 a1_4, .int .i64 a1_5] 26 ?_; intro gb132 hg w19 hbox hb; have n0 := bb (bk BK131) hb; have n1 := bs hb; have n2 := ra (hbox); have n3 := bz (w0 := w) hg; have n4 := bz (w0 := w) hg; have n5 := bn hg (bk BK131); have n6 := bm hg (bk BK131); clear BK131 HB; have BK131 := n0; have HB := n1; have BK132 := n2; have GW132 := n3; have GE132 := n4; have NB131_132 := n5; have NB132_131 := n6; clear n0 n1 n2 n3 n4 n5 n6; clear hb hbox hg; have hnb20 := NB131_132.out; have hnc20 := NB132_131.out; obtain ⟨hcz21_0, hcz21_1, hcz21_2, hcz21_3, hcz21_4, hcz21_5, hfz21_0, hfz21_1, hfz21_2, hfz21_3, hfz21_4, hfz21_5⟩ := zc6 BK131) | ((with_reducible refine gate_callee (f := 15) rfl ?_); refine gl (some 7) Try.func15 #[.agg #[.int .i64 a0_0, .int .i64 a0_1, .int .i64 a0_2, .int .i64 a0_3, .int .i64 a0_4, .int .i64 a0_5]] ?_; (with_reducible refine (spec_ProbeBoxOk.calls a0_0 a0_1 a0_2 a0_3 a0_4 a0_5 true _ A3.out).mono ?_); rintro e w22 ⟨rfl, hb⟩; refine ⟨_, rfl, ?_⟩; have n0 := bb (bk BK131) hb; have n1 := bb (bk BK132) hb; have n2 := bs hb; clear BK131 BK132 HB; have BK131 := n0; have BK132 := n1; have HB := n2; clear n0 n1 n2; (try clear hb); (try clear hb2); (try clear hk); (try clear hi); obtain ⟨hcz23_0, hcz23_1, hcz23_2, hcz23_3, hcz23_4, hcz23_5, hfz23_0, hfz23_1, hfz23_2, hfz23_3, hfz23_4, hfz23_5⟩ := zc6 BK132) | (go_at_call 15; (with_reducible refine (spec_ProbeBoxOk.calls a1_0 a1_1 a1_2 a1_3 a1_4 a1_5 false _ A5.out).mono ?_); rintro e w24 ⟨rfl, hb⟩; have n0 := bb (bk BK131) hb; have n1 := bb (bk BK132) hb; have n2 := bs hb; clear BK131 BK132 HB; have BK131 := n0; have BK132 := n1; have HB := n2; clear n0 n1 n2; (try clear hb); (try clear hb2); (try clear hk); (try clear hi)))
      go_ret2
      exact ⟨re, bq⟩
  · replace c4 := Bool.eq_false_iff.mpr c4
    subst c4
    have H1 : (some (0, false)) = some (r1, r2) := by rw [if_neg (show ¬ (false = true) by decide)] at H; exact H
    clear H
    have H := H1
    clear H1
    simp only [Option.some.injEq, Prod.mk.injEq] at H
    obtain ⟨rfl, rfl⟩ := H
    go_enter Try.func18, Try.ntmps18
    go_wp2_with (first | ((with_reducible refine gate_dst (N := 2) rfl ?_); refine be 2 #[.int .i64 a0_0, .int .i64 a0_1, .int .i64 a0_2, .int .i64 a0_3, .int .i64 a0_4, .int .i64 a0_5] 26 ?_; intro gb131 hg w25 hbox hb; have n0 := bs hb; have n1 := ra (hbox); have n2 := bz (w0 := w) hg; have n3 := bz (w0 := w) hg; clear HB; have HB := n0; have BK131 := n1; have GW131 := n2; have GE131 := n3; clear n0 n1 n2 n3; clear hb hbox hg) | ((with_reducible refine gate_dst (N := 3) rfl ?_); refine be 3 #[.int .i64 a1_0, .int .i64 a1_1, .int .i64 a1_2, .int .i64 a1_3, .int .i64 a1_4, .int .i64 a1_5] 26 ?_; intro gb132 hg w26 hbox hb; have n0 := bb (bk BK131) hb; have n1 := bs hb; have n2 := ra (hbox); have n3 := bz (w0 := w) hg; have n4 := bz (w0 := w) hg; have n5 := bn hg (bk BK131); have n6 := bm hg (bk BK131); clear BK131 HB; have BK131 := n0; have HB := n1; have BK132 := n2; have GW132 := n3; have GE132 := n4; have NB131_132 := n5; have NB132_131 := n6; clear n0 n1 n2 n3 n4 n5 n6; clear hb hbox hg; have hnb27 := NB131_132.out; have hnc27 := NB132_131.out; obtain ⟨hcz28_0, hcz28_1, hcz28_2, hcz28_3, hcz28_4, hcz28_5, hfz28_0, hfz28_1, hfz28_2, hfz28_3, hfz28_4, hfz28_5⟩ := zc6 BK131) | ((with_reducible refine gate_callee (f := 15) rfl ?_); refine gl (some 7) Try.func15 #[.agg #[.int .i64 a0_0, .int .i64 a0_1, .int .i64 a0_2, .int .i64 a0_3, .int .i64 a0_4, .int .i64 a0_5]] ?_; (with_reducible refine (spec_ProbeBoxOk.calls a0_0 a0_1 a0_2 a0_3 a0_4 a0_5 false _ A3.out).mono ?_); rintro e w29 ⟨rfl, hb⟩; refine ⟨_, rfl, ?_⟩; have n0 := bb (bk BK131) hb; have n1 := bb (bk BK132) hb; have n2 := bs hb; clear BK131 BK132 HB; have BK131 := n0; have BK132 := n1; have HB := n2; clear n0 n1 n2; (try clear hb); (try clear hb2); (try clear hk); (try clear hi)))
    go_ret2
    exact ⟨re, bq⟩
end Go.Proofs.Ytfoapgcnjnogiaa.PA
