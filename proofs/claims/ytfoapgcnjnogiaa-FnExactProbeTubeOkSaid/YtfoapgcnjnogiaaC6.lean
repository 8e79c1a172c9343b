/- A contract of the function laws_FnExactProbeTubeOk. (Began as a print of the kit's tool.) -/
import Derived.Test.YtfoapgcnjnogiaaPAd
import Derived.Test.YtfoapgcnjnogiaaCx
import Derived.Test.YtfoapgcnjnogiaaC20
import Derived.Test.YtfoapgcnjnogiaaC22
import Derived.Test.YtfoapgcnjnogiaaC21
import Derived.Test.YtfoapgcnjnogiaaC23
import Derived.Test.YtfoapgcnjnogiaaC24
namespace Go.Proofs.Ytfoapgcnjnogiaa.PA
open Go.RowKit Go.Proofs.YtfoapgcnjnogiaaW.PrintWords Go.Proofs.YtfoapgcnjnogiaaW.PrintLast Go.Proofs.YtfoapgcnjnogiaaW.PrintMore Go.Proofs.Ytfoapgcnjnogiaa.Z
attribute [local go_sem] max2_int min2_int max_two min_two max_three min_three max_four min_four
set_option linter.unusedVariables false
set_option linter.unusedSimpArgs false
set_option maxHeartbeats 8000000 in
set_option maxRecDepth 100000 in
theorem laws_FnExactProbeTubeOk.calls (k : Nat) (a0_0 : ByteArray) (A0_1 : Option Addr) (c0_1 : Nat) (l0_1 : List (S24)) (r : Bool) (w : World) (hr0_1 : Kd.C k24 w A0_1 l0_1.length l0_1) (hc0_1 : l0_1.length ≤ c0_1) (h : laws_FnExactProbeTubeOk.f k a0_0 l0_1 = some r) :
    Calls Try.prog 6 #[.agg #[.string a0_0, .slice A0_1 l0_1.length c0_1]] w fun e w' => e = .returned (.bool r) ∧ Below w.heap.size w w' := by
  have hu34 := Try.underlying34
  have hu39 := Try.underlying39
  have HR0_1 := Aside0.mk hr0_1
  have HC0_1 := Aside0.mk hc0_1
  clear hr0_1 hc0_1
  have HB := ra (Below.refl w.heap.size w)
  have H : ((laws_szProbeTube.f a0_0 l0_1 1048576).bind fun t211 => (if t211 < 0 then (some true) else ((laws_toProbeTube.f k a0_0 l0_1).bind fun bt212 => ((spec_ProbeTubeOk.f k bt212.1 bt212.2).bind fun t216 => ((laws_toProbeTube.f k a0_0 l0_1).bind fun bt217 => ((impl_ProbeTubeOk.f k bt217.1 bt217.2).bind fun t222 => (if (t222 != t216) = true then (some false) else ((laws_toProbeTube.f k a0_0 l0_1).bind fun bt223 => ((laws_eqProbeTube.f k bt217.1 bt217.2 bt223.1 bt223.2).bind fun t227 => (if t227 = true then (some true) else (some false))))))))))) = some r := h
  clear h
  obtain ⟨t211, A2, H⟩ := bo H
  by_cases c3 : t211 < 0
  · rw [if_pos c3] at H
    have c3b0 : decide (t211 < 0) = true := decide_eq_true c3
    clear c3
    obtain rfl := Option.some.inj H
    go_enter Try.func6, Try.ntmps6
    go_wp2_with (first | ((with_reducible refine gate_dst (N := 1) rfl ?_); refine be 1 #[.string a0_0, .slice A0_1 l0_1.length c0_1] 34 ?_; intro gb210 hg w4 hbox hb; have n0 := bs hb; have n1 := ra (hbox); have n2 := bz (w0 := w) hg; have n3 := bz (w0 := w) hg; clear HB; have HB := n0; have BK210 := n1; have GW210 := n2; have GE210 := n3; clear n0 n1 n2 n3; clear hb hbox hg; obtain ⟨hcz5_0, hcz5_1, hfz5_0, hfz5_1⟩ := zc2 BK210) | ((with_reducible refine gate_callee (f := 20) rfl ?_); refine gl (some 9) Try.func20 #[.agg #[.string a0_0, .slice A0_1 l0_1.length c0_1], .int .i64 1048576] ?_; (with_reducible refine (laws_szProbeTube.calls a0_0 _ _ l0_1 1048576 t211 _ ?side1 ?side2 A2.out).mono ?_); (case side1 => exact sc HR0_1); (case side2 => exact HC0_1.out); rintro e w6 ⟨rfl, hb⟩; refine ⟨_, rfl, ?_⟩; have n0 := bb (bk BK210) hb; have n1 := bs hb; clear BK210 HB; have BK210 := n0; have HB := n1; clear n0 n1; (try clear hb); (try clear hb2); (try clear hk); (try clear hi)))
    go_ret
    exact ⟨re, bq⟩
  · rw [if_neg c3] at H
    have c3b0 : decide (t211 < 0) = false := decide_eq_false c3
    clear c3
    obtain ⟨⟨t212, t213⟩, A7, H⟩ := bo H
    try dsimp only at H
    obtain ⟨t216, A8, H⟩ := bo H
    obtain ⟨⟨t217, t218⟩, A9, H⟩ := bo H
    try dsimp only at H
    obtain ⟨t222, A10, H⟩ := bo H
    by_cases c11 : (t222 != t216) = true
    · rw [if_pos c11] at H
      have c11b0 : (t222 != t216) = true := c11
      (try (have c11b1 : decide (t222 = t216) = false := by simpa using c11))
      (try (have c11b2 : (t222 == t216) = false := by simpa using c11))
      (try (have c11b3 : ¬ (t222 = t216) := by simpa using c11))
      clear c11
      obtain rfl := Option.some.inj H
      go_enter Try.func6, Try.ntmps6
      go_wp2_with (first | ((with_reducible refine gate_dst (N := 1) rfl ?_); refine be 1 #[.string a0_0, .slice A0_1 l0_1.length c0_1] 34 ?_; intro gb210 hg w12 hbox hb; have n0 := bs hb; have n1 := ra (hbox); have n2 := bz (w0 := w) hg; have n3 := bz (w0 := w) hg; clear HB; have HB := n0; have BK210 := n1; have GW210 := n2; have GE210 := n3; clear n0 n1 n2 n3; clear hb hbox hg; obtain ⟨hcz13_0, hcz13_1, hfz13_0, hfz13_1⟩ := zc2 BK210) | ((with_reducible refine gate_callee (f := 20) rfl ?_); refine gl (some 9) Try.func20 #[.agg #[.string a0_0, .slice A0_1 l0_1.length c0_1], .int .i64 1048576] ?_; (with_reducible refine (laws_szProbeTube.calls a0_0 _ _ l0_1 1048576 t211 _ ?side1 ?side2 A2.out).mono ?_); (case side1 => exact sc HR0_1); (case side2 => exact HC0_1.out); rintro e w14 ⟨rfl, hb⟩; refine ⟨_, rfl, ?_⟩; have n0 := bb (bk BK210) hb; have n1 := bs hb; clear BK210 HB; have BK210 := n0; have HB := n1; clear n0 n1; (try clear hb); (try clear hb2); (try clear hk); (try clear hi); obtain ⟨hcz15_0, hcz15_1, hfz15_0, hfz15_1⟩ := zc2 BK210) | ((with_reducible refine gate_callee (f := 22) rfl ?_); refine gl (some 13) Try.func22 #[.agg #[.string a0_0, .slice A0_1 l0_1.length c0_1]] ?_; (with_reducible refine (laws_toProbeTube.calls k a0_0 _ _ l0_1 t212 t213 _ ?side1 ?side2 A7.out).mono ?_); (case side1 => exact sc HR0_1); (case side2 => exact HC0_1.out); rintro e w16 ⟨v214, rfl, ho0, hb⟩; refine ⟨_, rfl, ?_⟩; have n0 := ra (Kd.R_lower ho0 (below_size bq)); have n1 := bb (bk BK210) hb; have n2 := bs hb; clear BK210 HB; have HO215 := n0; have BK210 := n1; have HB := n2; clear n0 n1 n2; (try clear hb); (try clear hb2); (try clear hk); (try clear hi); (try clear ho0); obtain ⟨Ao17, co17, eo17⟩ := Kd.R_slice HO215.out; subst eo17) | ((with_reducible refine gate_callee (f := 21) rfl ?_); refine gl (some 14) Try.func21 #[.agg #[.string t212, .slice Ao17 t213.length co17]] ?_; (with_reducible refine (spec_ProbeTubeOk.calls k t212 _ _ t213 t216 _ ?side1 ?side2 A8.out).mono ?_); (case side1 => exact sr HO215); (case side2 => exact (Kd.R_reads' HO215.out).2.1); rintro e w18 ⟨rfl, hb⟩; refine ⟨_, rfl, ?_⟩; have n0 := ra (Kd.R_below (rq HO215) hb); have n1 := bb (bk BK210) hb; have n2 := bs hb; clear HO215 BK210 HB; have HO215 := n0; have BK210 := n1; have HB := n2; clear n0 n1 n2; (try clear hb); (try clear hb2); (try clear hk); (try clear hi); obtain ⟨hcz19_0, hcz19_1, hfz19_0, hfz19_1⟩ := zc2 BK210) | ((with_reducible refine gate_callee (f := 22) rfl ?_); refine gl (some 16) Try.func22 #[.agg #[.string a0_0, .slice A0_1 l0_1.length c0_1]] ?_; (with_reducible refine (laws_toProbeTube.calls k a0_0 _ _ l0_1 t217 t218 _ ?side1 ?side2 A9.out).mono ?_); (case side1 => exact sc HR0_1); (case side2 => exact HC0_1.out); rintro e w20 ⟨v219, rfl, ho0, hb⟩; refine ⟨_, rfl, ?_⟩; have n0 := ra (Kd.R_elder' (rq HO215) (Kd.R_base ho0) hb); have n1 := ra (Kd.R_lower (Kd.R_new' ho0 (Kd.R_lt (rq HO215))) (below_size bq)); have n2 := bb (bk BK210) hb; have n3 := bs hb; clear HO215 BK210 HB; have HO215 := n0; have HO220 := n1; have BK210 := n2; have HB := n3; clear n0 n1 n2 n3; (try clear hb); (try clear hb2); (try clear hk); (try clear hi); (try clear ho0)) | ((with_reducible refine gate_dst (N := 5) rfl ?_); refine be 5 #[.string (⟨#[]⟩ : ByteArray), .slice none 0 0] 39 ?_; intro gb221 hg w21 hbox hb; have n0 := ra (Kd.R_below (rq HO215) hb); have n1 := ra (Kd.R_below (rq HO220) hb); have n2 := bb (bk BK210) hb; have n3 := bs hb; have n4 := ra (hbox); have n5 := bz (w0 := w) hg; have n6 := bz (w0 := w) hg; have n7 := bn hg (bk BK210); have n8_ := bm hg (bk BK210); clear HO215 HO220 BK210 HB; have HO215 := n0; have HO220 := n1; have BK210 := n2; have HB := n3; have BK221 := n4; have GW221 := n5; have GE221 := n6; have NB210_221 := n7; have NB221_210 := n8_; clear n0 n1 n2 n3 n4 n5 n6 n7 n8_; clear hb hbox hg; have hnb22 := NB221_210.out; have hnc22 := NB210_221.out; obtain ⟨hcz23_0, hcz23_1, hfz23_0, hfz23_1⟩ := zc2 BK221; obtain ⟨Ao24, co24, eo24⟩ := Kd.R_slice HO220.out; subst eo24) | ((with_reducible refine gate_callee (f := 23) rfl ?_); refine gl (some 18) Try.func23 #[.agg #[.string t217, .slice Ao24 t218.length co24]] ?_; (with_reducible refine (impl_ProbeTubeOk.calls k t217 _ _ t218 t222 _ ?side1 ?side2 A10.out).mono ?_); (case side1 => refine (Kd.R_reads' (e := 26) (base := w.heap.size) (ok := fun k_ => (True ∧ some k_ ≠ (.slice Ao17 t213.length co17 : Value).ownBlock)) (n := t218.length) (c := co24) ?_).2.2; exact (rr (Kd.R_mono (Kd.R_far (p := ⟨gb221, 1, none⟩) (Kd.R_far (p := ⟨gb221, 0, none⟩) (Kd.R_types HO220.out BK221.out (by decide)) (fun _ hk => hk.2) (.string t217)) (fun _ hk => hk.2) (.slice Ao24 t218.length co24)) (fun _ h_ => h_.1)))); (case side2 => exact (Kd.R_reads' HO220.out).2.1); rintro e w25 ⟨rfl, hb⟩; refine ⟨_, rfl, ?_⟩; have n0 := ra (Kd.R_below (rr (Kd.R_mono (Kd.R_far (p := ⟨gb221, 1, none⟩) (Kd.R_far (p := ⟨gb221, 0, none⟩) (Kd.R_types HO215.out BK221.out (by decide)) (fun _ hk => hk.2) (.string t217)) (fun _ hk => hk.2) (.slice Ao24 t218.length co24)) (fun _ h_ => h_.1))) hb); have n1 := ra (Kd.R_below (rr (Kd.R_mono (Kd.R_far (p := ⟨gb221, 1, none⟩) (Kd.R_far (p := ⟨gb221, 0, none⟩) (Kd.R_types HO220.out BK221.out (by decide)) (fun _ hk => hk.2) (.string t217)) (fun _ hk => hk.2) (.slice Ao24 t218.length co24)) (fun _ h_ => h_.1))) hb); have n2 := bb (bk BK210) hb; have n3 := bb (o := .cells #[.string t217, .slice Ao24 t218.length co24] 39 (0, 0)) (bp BK221) hb; have n4 := bs hb; clear HO215 HO220 BK210 BK221 HB; have HO215 := n0; have HO220 := n1; have BK210 := n2; have BK221 := n3; have HB := n4; clear n0 n1 n2 n3 n4; (try clear hb); (try clear hb2); (try clear hk); (try clear hi)))
      go_ret
      exact ⟨re, bq⟩
    · rw [if_neg c11] at H
      have c11b0 : (t222 != t216) = false := by simpa using c11
      (try (have c11b1 : decide (t222 = t216) = true := by simpa using c11))
      (try (have c11b2 : (t222 == t216) = true := by simpa using c11))
      clear c11
      obtain ⟨⟨t223, t224⟩, A26, H⟩ := bo H
      try dsimp only at H
      obtain ⟨t227, A27, H⟩ := bo H
      by_cases c28 : t227 = true
      · subst c28
        replace H := it H rfl
        obtain rfl := Option.some.inj H
        go_enter Try.func6, Try.ntmps6
        try go_wp2_with (first | ((with_reducible refine gate_dst (N := 1) rfl ?_); refine be 1 #[.string a0_0, .slice A0_1 l0_1.length c0_1] 34 ?_; intro gb210 hg w29 hbox hb; have n0 := bs hb; have n1 := ra (hbox); have n2 := bz (w0 := w) hg; have n3 := bz (w0 := w) hg; clear HB; have HB := n0; have BK210 := n1; have GW210 := n2; have GE210 := n3; clear n0 n1 n2 n3; clear hb hbox hg; obtain ⟨hcz30_0, hcz30_1, hfz30_0, hfz30_1⟩ := zc2 BK210) | ((with_reducible refine gate_callee (f := 20) rfl ?_); refine gl (some 9) Try.func20 #[.agg #[.string a0_0, .slice A0_1 l0_1.length c0_1], .int .i64 1048576] ?_; (with_reducible refine (laws_szProbeTube.calls a0_0 _ _ l0_1 1048576 t211 _ ?side1 ?side2 A2.out).mono ?_); (case side1 => exact sc HR0_1); (case side2 => exact HC0_1.out); rintro e w31 ⟨rfl, hb⟩; refine ⟨_, rfl, ?_⟩; have n0 := bb (bk BK210) hb; have n1 := bs hb; clear BK210 HB; have BK210 := n0; have HB := n1; clear n0 n1; (try clear hb); (try clear hb2); (try clear hk); (try clear hi); obtain ⟨hcz32_0, hcz32_1, hfz32_0, hfz32_1⟩ := zc2 BK210) | ((with_reducible refine gate_callee (f := 22) rfl ?_); refine gl (some 13) Try.func22 #[.agg #[.string a0_0, .slice A0_1 l0_1.length c0_1]] ?_; (with_reducible refine (laws_toProbeTube.calls k a0_0 _ _ l0_1 t212 t213 _ ?side1 ?side2 A7.out).mono ?_); (case side1 => exact sc HR0_1); (case side2 => exact HC0_1.out); rintro e w33 ⟨v214, rfl, ho0, hb⟩; refine ⟨_, rfl, ?_⟩; have n0 := ra (Kd.R_lower ho0 (below_size bq)); have n1 := bb (bk BK210) hb; have n2 := bs hb; clear BK210 HB; have HO215 := n0; have BK210 := n1; have HB := n2; clear n0 n1 n2; (try clear hb); (try clear hb2); (try clear hk); (try clear hi); (try clear ho0); obtain ⟨Ao34, co34, eo34⟩ := Kd.R_slice HO215.out; subst eo34) | ((with_reducible refine gate_callee (f := 21) rfl ?_); refine gl (some 14) Try.func21 #[.agg #[.string t212, .slice Ao34 t213.length co34]] ?_; (with_reducible refine (spec_ProbeTubeOk.calls k t212 _ _ t213 t216 _ ?side1 ?side2 A8.out).mono ?_); (case side1 => exact sr HO215); (case side2 => exact (Kd.R_reads' HO215.out).2.1); rintro e w35 ⟨rfl, hb⟩; refine ⟨_, rfl, ?_⟩; have n0 := ra (Kd.R_below (rq HO215) hb); have n1 := bb (bk BK210) hb; have n2 := bs hb; clear HO215 BK210 HB; have HO215 := n0; have BK210 := n1; have HB := n2; clear n0 n1 n2; (try clear hb); (try clear hb2); (try clear hk); (try clear hi); obtain ⟨hcz36_0, hcz36_1, hfz36_0, hfz36_1⟩ := zc2 BK210) | ((with_reducible refine gate_callee (f := 22) rfl ?_); refine gl (some 16) Try.func22 #[.agg #[.string a0_0, .slice A0_1 l0_1.length c0_1]] ?_; (with_reducible refine (laws_toProbeTube.calls k a0_0 _ _ l0_1 t217 t218 _ ?side1 ?side2 A9.out).mono ?_); (case side1 => exact sc HR0_1); (case side2 => exact HC0_1.out); rintro e w37 ⟨v219, rfl, ho0, hb⟩; refine ⟨_, rfl, ?_⟩; have n0 := ra (Kd.R_elder' (rq HO215) (Kd.R_base ho0) hb); have n1 := ra (Kd.R_lower (Kd.R_new' ho0 (Kd.R_lt (rq HO215))) (below_size bq)); have n2 := bb (bk BK210) hb; have n3 := bs hb; clear HO215 BK210 HB; have HO215 := n0; have HO220 := n1; have BK210 := n2; have HB := n3; clear n0 n1 n2 n3; (try clear hb); (try clear hb2); (try clear hk); (try clear hi); (try clear ho0)) | ((with_reducible refine gate_dst (N := 5) rfl ?_); refine be 5 #[.string (⟨#[]⟩ : ByteArray), .slice none 0 0] 39 ?_; intro gb221 hg w38 hbox hb; have n0 := ra (Kd.R_below (rq HO215) hb); have n1 := ra (Kd.R_below (rq HO220) hb); have n2 := bb (bk BK210) hb; have n3 := bs hb; have n4 := ra (hbox); have n5 := bz (w0 := w) hg; have n6 := bz (w0 := w) hg; have n7 := bn hg (bk BK210); have n8_ := bm hg (bk BK210); clear HO215 HO220 BK210 HB; have HO215 := n0; have HO220 := n1; have BK210 := n2; have HB := n3; have BK221 := n4; have GW221 := n5; have GE221 := n6; have NB210_221 := n7; have NB221_210 := n8_; clear n0 n1 n2 n3 n4 n5 n6 n7 n8_; clear hb hbox hg; have hnb39 := NB221_210.out; have hnc39 := NB210_221.out; obtain ⟨hcz40_0, hcz40_1, hfz40_0, hfz40_1⟩ := zc2 BK221; obtain ⟨Ao41, co41, eo41⟩ := Kd.R_slice HO220.out; subst eo41) | ((with_reducible refine gate_callee (f := 23) rfl ?_); refine gl (some 18) Try.func23 #[.agg #[.string t217, .slice Ao41 t218.length co41]] ?_; (with_reducible refine (impl_ProbeTubeOk.calls k t217 _ _ t218 t222 _ ?side1 ?side2 A10.out).mono ?_); (case side1 => refine (Kd.R_reads' (e := 26) (base := w.heap.size) (ok := fun k_ => (True ∧ some k_ ≠ (.slice Ao34 t213.length co34 : Value).ownBlock)) (n := t218.length) (c := co41) ?_).2.2; exact (rr (Kd.R_mono (Kd.R_far (p := ⟨gb221, 1, none⟩) (Kd.R_far (p := ⟨gb221, 0, none⟩) (Kd.R_types HO220.out BK221.out (by decide)) (fun _ hk => hk.2) (.string t217)) (fun _ hk => hk.2) (.slice Ao41 t218.length co41)) (fun _ h_ => h_.1)))); (case side2 => exact (Kd.R_reads' HO220.out).2.1); rintro e w42 ⟨rfl, hb⟩; refine ⟨_, rfl, ?_⟩; have n0 := ra (Kd.R_below (rr (Kd.R_mono (Kd.R_far (p := ⟨gb221, 1, none⟩) (Kd.R_far (p := ⟨gb221, 0, none⟩) (Kd.R_types HO215.out BK221.out (by decide)) (fun _ hk => hk.2) (.string t217)) (fun _ hk => hk.2) (.slice Ao41 t218.length co41)) (fun _ h_ => h_.1))) hb); have n1 := ra (Kd.R_below (rr (Kd.R_mono (Kd.R_far (p := ⟨gb221, 1, none⟩) (Kd.R_far (p := ⟨gb221, 0, none⟩) (Kd.R_types HO220.out BK221.out (by decide)) (fun _ hk => hk.2) (.string t217)) (fun _ hk => hk.2) (.slice Ao41 t218.length co41)) (fun _ h_ => h_.1))) hb); have n2 := bb (bk BK210) hb; have n3 := bb (o := .cells #[.string t217, .slice Ao41 t218.length co41] 39 (0, 0)) (bp BK221) hb; have n4 := bs hb; clear HO215 HO220 BK210 BK221 HB; have HO215 := n0; have HO220 := n1; have BK210 := n2; have BK221 := n3; have HB := n4; clear n0 n1 n2 n3 n4; (try clear hb); (try clear hb2); (try clear hk); (try clear hi)))
        have n0 := ra (Kd.R_drew HO215.out)
        have n1 := ra (Kd.R_drew HO220.out)
        have n2 := ra (blk_drew BK210.out)
        have n3 := ra (blk_drew BK221.out)
        have n4 := ra (below_drew1 HB.out)
        clear HO215 HO220 BK210 BK221 HB
        have HO215 := n0
        have HO220 := n1
        have BK210 := n2
        have BK221 := n3
        have HB := n4
        clear n0 n1 n2 n3 n4
        refine start_ (n := 5) (S := fun w' => w'.cell? ⟨gb221, 0, none⟩ = some (.string t217) ∧ w'.cell? ⟨gb221, 1, none⟩ = some (.slice Ao41 t218.length co41) ∧ w'.cell? ⟨gb210, 0, none⟩ = some (.string a0_0) ∧ w'.cell? ⟨gb210, 1, none⟩ = some (.slice A0_1 l0_1.length c0_1)) (ds := []) (bl 5 0) (by kernel_rfl) rfl rfl ⟨(blk_cell BK221.out 0).trans rfl, (blk_cell BK221.out 1).trans rfl, (blk_cell BK210.out 0).trans rfl, (blk_cell BK210.out 1).trans rfl⟩ (fun hHeld => ?_)
        generalize w42.drew = w43 at HO215 HO220 BK210 BK221 HB hHeld ⊢
        refine tk 0 22 (bl 5 1) ?_ hHeld
        refine tk 1 23 (bl 5 3) ?_ hHeld
        refine oe 2 24 (bl 5 7) (fun K hK => ?_)
        refine gs Try.func22 #[.agg #[.string a0_0, .slice A0_1 l0_1.length c0_1]] ?_
        with_reducible refine (laws_toProbeTube.calls k a0_0 _ _ l0_1 t223 t224 _ ?side1 ?side2 A26.out).mono ?_
        (case side1 => exact sc HR0_1)
        (case side2 => exact HC0_1.out)
        rintro e w44 ⟨v225, rfl, ho0, hb⟩
        refine ⟨_, rfl, ?_⟩
        have n0 := ra (Kd.R_elder' (rq HO215) (Kd.R_base ho0) hb)
        have n1 := ra (Kd.R_elder' (rq HO220) (Kd.R_base ho0) hb)
        have n2 := ra (Kd.R_lower (Kd.R_new' (Kd.R_new' ho0 (Kd.R_lt (rq HO215))) (Kd.R_lt (rq HO220))) (below_size bq))
        have n3 := bb (bk BK210) hb
        have n4 := bb (bk BK221) hb
        have n5 := bs hb
        clear HO215 HO220 BK210 BK221 HB
        have HO215 := n0
        have HO220 := n1
        have HO226 := n2
        have BK210 := n3
        have BK221 := n4
        have HB := n5
        clear n0 n1 n2 n3 n4 n5
        (try clear hb)
        (try clear hb2)
        (try clear hk)
        (try clear hi)
        (try clear ho0)
        obtain ⟨Ao45, co45, eo45⟩ := Kd.R_slice HO226.out
        (first | subst eo45 | (injection eo45 with f1_ f2_ f3_; have f4_ := f1_.symm; have f5_ := f3_.symm; clear f1_ f2_ f3_; subst f4_; subst f5_))
        refine hK.out _ _ ⟨(blk_cell BK221.out 0).trans rfl, (blk_cell BK221.out 1).trans rfl, (blk_cell BK210.out 0).trans rfl, (blk_cell BK210.out 1).trans rfl⟩ (fun hHeld => ?_)
        clear hK K
        refine nm 24 ?_
        refine oe 3 25 (bl 5 15) (fun K hK => ?_)
        refine gs Try.func24 #[.agg #[.string t217, .slice Ao41 t218.length co41], .agg #[.string t223, .slice Ao45 t224.length co45]] ?_
        with_reducible refine (laws_eqProbeTube.calls k t217 _ _ t218 t223 _ _ t224 true _ ?side1 ?side2 ?side3 ?side4 A27.out).mono ?_
        (case side1 => exact sr HO220)
        (case side2 => exact (Kd.R_reads' HO220.out).2.1)
        (case side3 => exact sr HO226)
        (case side4 => exact (Kd.R_reads' HO226.out).2.1)
        rintro e w46 ⟨rfl, hb⟩
        refine ⟨_, rfl, ?_⟩
        have n0 := ra (Kd.R_below (rq HO215) hb)
        have n1 := ra (Kd.R_below (rq HO220) hb)
        have n2 := ra (Kd.R_below (rq HO226) hb)
        have n3 := bb (bk BK210) hb
        have n4 := bb (bk BK221) hb
        have n5 := bs hb
        clear HO215 HO220 HO226 BK210 BK221 HB
        have HO215 := n0
        have HO220 := n1
        have HO226 := n2
        have BK210 := n3
        have BK221 := n4
        have HB := n5
        clear n0 n1 n2 n3 n4 n5
        (try clear hb)
        (try clear hb2)
        (try clear hk)
        (try clear hi)
        refine hK.out _ _ ⟨(blk_cell BK221.out 0).trans rfl, (blk_cell BK221.out 1).trans rfl, (blk_cell BK210.out 0).trans rfl, (blk_cell BK210.out 1).trans rfl⟩ (fun hHeld => ?_)
        clear hK K
        refine nm 25 ?_
        refine pu 4 26 (bl 5 31) ?_
        refine done_ (by kernel_rfl) ?_
        try go_wp2
        go_ret
        exact ⟨re, bq⟩
      · replace c28 := Bool.eq_false_iff.mpr c28
        subst c28
        have H1 : (some false) = some r := by rw [if_neg (show ¬ (false = true) by decide)] at H; exact H
        clear H
        have H := H1
        clear H1
        obtain rfl := Option.some.inj H
        go_enter Try.func6, Try.ntmps6
        try go_wp2_with (first | ((with_reducible refine gate_dst (N := 1) rfl ?_); refine be 1 #[.string a0_0, .slice A0_1 l0_1.length c0_1] 34 ?_; intro gb210 hg w47 hbox hb; have n0 := bs hb; have n1 := ra (hbox); have n2 := bz (w0 := w) hg; have n3 := bz (w0 := w) hg; clear HB; have HB := n0; have BK210 := n1; have GW210 := n2; have GE210 := n3; clear n0 n1 n2 n3; clear hb hbox hg; obtain ⟨hcz48_0, hcz48_1, hfz48_0, hfz48_1⟩ := zc2 BK210) | ((with_reducible refine gate_callee (f := 20) rfl ?_); refine gl (some 9) Try.func20 #[.agg #[.string a0_0, .slice A0_1 l0_1.length c0_1], .int .i64 1048576] ?_; (with_reducible refine (laws_szProbeTube.calls a0_0 _ _ l0_1 1048576 t211 _ ?side1 ?side2 A2.out).mono ?_); (case side1 => exact sc HR0_1); (case side2 => exact HC0_1.out); rintro e w49 ⟨rfl, hb⟩; refine ⟨_, rfl, ?_⟩; have n0 := bb (bk BK210) hb; have n1 := bs hb; clear BK210 HB; have BK210 := n0; have HB := n1; clear n0 n1; (try clear hb); (try clear hb2); (try clear hk); (try clear hi); obtain ⟨hcz50_0, hcz50_1, hfz50_0, hfz50_1⟩ := zc2 BK210) | ((with_reducible refine gate_callee (f := 22) rfl ?_); refine gl (some 13) Try.func22 #[.agg #[.string a0_0, .slice A0_1 l0_1.length c0_1]] ?_; (with_reducible refine (laws_toProbeTube.calls k a0_0 _ _ l0_1 t212 t213 _ ?side1 ?side2 A7.out).mono ?_); (case side1 => exact sc HR0_1); (case side2 => exact HC0_1.out); rintro e w51 ⟨v214, rfl, ho0, hb⟩; refine ⟨_, rfl, ?_⟩; have n0 := ra (Kd.R_lower ho0 (below_size bq)); have n1 := bb (bk BK210) hb; have n2 := bs hb; clear BK210 HB; have HO215 := n0; have BK210 := n1; have HB := n2; clear n0 n1 n2; (try clear hb); (try clear hb2); (try clear hk); (try clear hi); (try clear ho0); obtain ⟨Ao52, co52, eo52⟩ := Kd.R_slice HO215.out; subst eo52) | ((with_reducible refine gate_callee (f := 21) rfl ?_); refine gl (some 14) Try.func21 #[.agg #[.string t212, .slice Ao52 t213.length co52]] ?_; (with_reducible refine (spec_ProbeTubeOk.calls k t212 _ _ t213 t216 _ ?side1 ?side2 A8.out).mono ?_); (case side1 => exact sr HO215); (case side2 => exact (Kd.R_reads' HO215.out).2.1); rintro e w53 ⟨rfl, hb⟩; refine ⟨_, rfl, ?_⟩; have n0 := ra (Kd.R_below (rq HO215) hb); have n1 := bb (bk BK210) hb; have n2 := bs hb; clear HO215 BK210 HB; have HO215 := n0; have BK210 := n1; have HB := n2; clear n0 n1 n2; (try clear hb); (try clear hb2); (try clear hk); (try clear hi); obtain ⟨hcz54_0, hcz54_1, hfz54_0, hfz54_1⟩ := zc2 BK210) | ((with_reducible refine gate_callee (f := 22) rfl ?_); refine gl (some 16) Try.func22 #[.agg #[.string a0_0, .slice A0_1 l0_1.length c0_1]] ?_; (with_reducible refine (laws_toProbeTube.calls k a0_0 _ _ l0_1 t217 t218 _ ?side1 ?side2 A9.out).mono ?_); (case side1 => exact sc HR0_1); (case side2 => exact HC0_1.out); rintro e w55 ⟨v219, rfl, ho0, hb⟩; refine ⟨_, rfl, ?_⟩; have n0 := ra (Kd.R_elder' (rq HO215) (Kd.R_base ho0) hb); have n1 := ra (Kd.R_lower (Kd.R_new' ho0 (Kd.R_lt (rq HO215))) (below_size bq)); have n2 := bb (bk BK210) hb; have n3 := bs hb; clear HO215 BK210 HB; have HO215 := n0; have HO220 := n1; have BK210 := n2; have HB := n3; clear n0 n1 n2 n3; (try clear hb); (try clear hb2); (try clear hk); (try clear hi); (try clear ho0)) | ((with_reducible refine gate_dst (N := 5) rfl ?_); refine be 5 #[.string (⟨#[]⟩ : ByteArray), .slice none 0 0] 39 ?_; intro gb221 hg w56 hbox hb; have n0 := ra (Kd.R_below (rq HO215) hb); have n1 := ra (Kd.R_below (rq HO220) hb); have n2 := bb (bk BK210) hb; have n3 := bs hb; have n4 := ra (hbox); have n5 := bz (w0 := w) hg; have n6 := bz (w0 := w) hg; have n7 := bn hg (bk BK210); have n8_ := bm hg (bk BK210); clear HO215 HO220 BK210 HB; have HO215 := n0; have HO220 := n1; have BK210 := n2; have HB := n3; have BK221 := n4; have GW221 := n5; have GE221 := n6; have NB210_221 := n7; have NB221_210 := n8_; clear n0 n1 n2 n3 n4 n5 n6 n7 n8_; clear hb hbox hg; have hnb57 := NB221_210.out; have hnc57 := NB210_221.out; obtain ⟨hcz58_0, hcz58_1, hfz58_0, hfz58_1⟩ := zc2 BK221; obtain ⟨Ao59, co59, eo59⟩ := Kd.R_slice HO220.out; subst eo59) | ((with_reducible refine gate_callee (f := 23) rfl ?_); refine gl (some 18) Try.func23 #[.agg #[.string t217, .slice Ao59 t218.length co59]] ?_; (with_reducible refine (impl_ProbeTubeOk.calls k t217 _ _ t218 t222 _ ?side1 ?side2 A10.out).mono ?_); (case side1 => refine (Kd.R_reads' (e := 26) (base := w.heap.size) (ok := fun k_ => (True ∧ some k_ ≠ (.slice Ao52 t213.length co52 : Value).ownBlock)) (n := t218.length) (c := co59) ?_).2.2; exact (rr (Kd.R_mono (Kd.R_far (p := ⟨gb221, 1, none⟩) (Kd.R_far (p := ⟨gb221, 0, none⟩) (Kd.R_types HO220.out BK221.out (by decide)) (fun _ hk => hk.2) (.string t217)) (fun _ hk => hk.2) (.slice Ao59 t218.length co59)) (fun _ h_ => h_.1)))); (case side2 => exact (Kd.R_reads' HO220.out).2.1); rintro e w60 ⟨rfl, hb⟩; refine ⟨_, rfl, ?_⟩; have n0 := ra (Kd.R_below (rr (Kd.R_mono (Kd.R_far (p := ⟨gb221, 1, none⟩) (Kd.R_far (p := ⟨gb221, 0, none⟩) (Kd.R_types HO215.out BK221.out (by decide)) (fun _ hk => hk.2) (.string t217)) (fun _ hk => hk.2) (.slice Ao59 t218.length co59)) (fun _ h_ => h_.1))) hb); have n1 := ra (Kd.R_below (rr (Kd.R_mono (Kd.R_far (p := ⟨gb221, 1, none⟩) (Kd.R_far (p := ⟨gb221, 0, none⟩) (Kd.R_types HO220.out BK221.out (by decide)) (fun _ hk => hk.2) (.string t217)) (fun _ hk => hk.2) (.slice Ao59 t218.length co59)) (fun _ h_ => h_.1))) hb); have n2 := bb (bk BK210) hb; have n3 := bb (o := .cells #[.string t217, .slice Ao59 t218.length co59] 39 (0, 0)) (bp BK221) hb; have n4 := bs hb; clear HO215 HO220 BK210 BK221 HB; have HO215 := n0; have HO220 := n1; have BK210 := n2; have BK221 := n3; have HB := n4; clear n0 n1 n2 n3 n4; (try clear hb); (try clear hb2); (try clear hk); (try clear hi)))
        have n0 := ra (Kd.R_drew HO215.out)
        have n1 := ra (Kd.R_drew HO220.out)
        have n2 := ra (blk_drew BK210.out)
        have n3 := ra (blk_drew BK221.out)
        have n4 := ra (below_drew1 HB.out)
        clear HO215 HO220 BK210 BK221 HB
        have HO215 := n0
        have HO220 := n1
        have BK210 := n2
        have BK221 := n3
        have HB := n4
        clear n0 n1 n2 n3 n4
        refine start_ (n := 5) (S := fun w' => w'.cell? ⟨gb221, 0, none⟩ = some (.string t217) ∧ w'.cell? ⟨gb221, 1, none⟩ = some (.slice Ao59 t218.length co59) ∧ w'.cell? ⟨gb210, 0, none⟩ = some (.string a0_0) ∧ w'.cell? ⟨gb210, 1, none⟩ = some (.slice A0_1 l0_1.length c0_1)) (ds := []) (bl 5 0) (by kernel_rfl) rfl rfl ⟨(blk_cell BK221.out 0).trans rfl, (blk_cell BK221.out 1).trans rfl, (blk_cell BK210.out 0).trans rfl, (blk_cell BK210.out 1).trans rfl⟩ (fun hHeld => ?_)
        generalize w60.drew = w61 at HO215 HO220 BK210 BK221 HB hHeld ⊢
        refine tk 0 22 (bl 5 1) ?_ hHeld
        refine tk 1 23 (bl 5 3) ?_ hHeld
        refine oe 2 24 (bl 5 7) (fun K hK => ?_)
        refine gs Try.func22 #[.agg #[.string a0_0, .slice A0_1 l0_1.length c0_1]] ?_
        with_reducible refine (laws_toProbeTube.calls k a0_0 _ _ l0_1 t223 t224 _ ?side1 ?side2 A26.out).mono ?_
        (case side1 => exact sc HR0_1)
        (case side2 => exact HC0_1.out)
        rintro e w62 ⟨v225, rfl, ho0, hb⟩
        refine ⟨_, rfl, ?_⟩
        have n0 := ra (Kd.R_elder' (rq HO215) (Kd.R_base ho0) hb)
        have n1 := ra (Kd.R_elder' (rq HO220) (Kd.R_base ho0) hb)
        have n2 := ra (Kd.R_lower (Kd.R_new' (Kd.R_new' ho0 (Kd.R_lt (rq HO215))) (Kd.R_lt (rq HO220))) (below_size bq))
        have n3 := bb (bk BK210) hb
        have n4 := bb (bk BK221) hb
        have n5 := bs hb
        clear HO215 HO220 BK210 BK221 HB
        have HO215 := n0
        have HO220 := n1
        have HO226 := n2
        have BK210 := n3
        have BK221 := n4
        have HB := n5
        clear n0 n1 n2 n3 n4 n5
        (try clear hb)
        (try clear hb2)
        (try clear hk)
        (try clear hi)
        (try clear ho0)
        obtain ⟨Ao63, co63, eo63⟩ := Kd.R_slice HO226.out
        (first | subst eo63 | (injection eo63 with f1_ f2_ f3_; have f4_ := f1_.symm; have f5_ := f3_.symm; clear f1_ f2_ f3_; subst f4_; subst f5_))
        refine hK.out _ _ ⟨(blk_cell BK221.out 0).trans rfl, (blk_cell BK221.out 1).trans rfl, (blk_cell BK210.out 0).trans rfl, (blk_cell BK210.out 1).trans rfl⟩ (fun hHeld => ?_)
        clear hK K
        refine nm 24 ?_
        refine oe 3 25 (bl 5 15) (fun K hK => ?_)
        refine gs Try.func24 #[.agg #[.string t217, .slice Ao59 t218.length co59], .agg #[.string t223, .slice Ao63 t224.length co63]] ?_
        with_reducible refine (laws_eqProbeTube.calls k t217 _ _ t218 t223 _ _ t224 false _ ?side1 ?side2 ?side3 ?side4 A27.out).mono ?_
        (case side1 => exact sr HO220)
        (case side2 => exact (Kd.R_reads' HO220.out).2.1)
        (case side3 => exact sr HO226)
        (case side4 => exact (Kd.R_reads' HO226.out).2.1)
        rintro e w64 ⟨rfl, hb⟩
        refine ⟨_, rfl, ?_⟩
        have n0 := ra (Kd.R_below (rq HO215) hb)
        have n1 := ra (Kd.R_below (rq HO220) hb)
        have n2 := ra (Kd.R_below (rq HO226) hb)
        have n3 := bb (bk BK210) hb
        have n4 := bb (bk BK221) hb
        have n5 := bs hb
        clear HO215 HO220 HO226 BK210 BK221 HB
        have HO215 := n0
        have HO220 := n1
        have HO226 := n2
        have BK210 := n3
        have BK221 := n4
        have HB := n5
        clear n0 n1 n2 n3 n4 n5
        (try clear hb)
        (try clear hb2)
        (try clear hk)
        (try clear hi)
        refine hK.out _ _ ⟨(blk_cell BK221.out 0).trans rfl, (blk_cell BK221.out 1).trans rfl, (blk_cell BK210.out 0).trans rfl, (blk_cell BK210.out 1).trans rfl⟩ (fun hHeld => ?_)
        clear hK K
        refine nm 25 ?_
        refine pu 4 26 (bl 5 31) ?_
        refine done_ (by kernel_rfl) ?_
        try go_wp2
        go_ret
        exact ⟨re, bq⟩
end Go.Proofs.Ytfoapgcnjnogiaa.PA
