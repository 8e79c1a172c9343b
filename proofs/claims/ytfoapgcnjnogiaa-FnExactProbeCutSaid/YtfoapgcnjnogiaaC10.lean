/- Contracts of the functions laws_FnExactProbeCut. (Began as a print of the kit's tool.) -/
import Derived.Test.YtfoapgcnjnogiaaPAd
import Derived.Test.YtfoapgcnjnogiaaCx
import Derived.Test.YtfoapgcnjnogiaaCy
import Derived.Test.YtfoapgcnjnogiaaGConv
import Derived.Test.YtfoapgcnjnogiaaGConv
import Derived.Test.YtfoapgcnjnogiaaGCut
import Derived.Test.YtfoapgcnjnogiaaGCut
import Derived.Test.YtfoapgcnjnogiaaGConv
import Derived.Test.YtfoapgcnjnogiaaGMark
import Derived.Test.YtfoapgcnjnogiaaGMark
namespace Go.Proofs.Ytfoapgcnjnogiaa.PA
open Go.RowKit Go.Proofs.YtfoapgcnjnogiaaW.PrintWords Go.Proofs.YtfoapgcnjnogiaaW.PrintLast Go.Proofs.YtfoapgcnjnogiaaW.PrintMore Go.Proofs.Ytfoapgcnjnogiaa.Z
attribute [local go_sem] max2_int min2_int max_two min_two max_three min_three max_four min_four
set_option linter.unusedVariables false
set_option linter.unusedSimpArgs false
set_option maxHeartbeats 8000000 in
set_option maxRecDepth 100000 in
theorem laws_FnExactProbeCut.calls (k : Nat) (a0_0 : ByteArray) (A0_1 : Option Addr) (c0_1 : Nat) (l0_1 : List (S24)) (a1 : Int) (w : World) (hr0_1 : Kd.C k24 w A0_1 l0_1.length l0_1) (hc0_1 : l0_1.length ≤ c0_1) (h : laws_FnExactProbeCut.f k a0_0 l0_1 a1 = some true) :
    Calls Try.prog 10 #[.agg #[.string a0_0, .slice A0_1 l0_1.length c0_1], .int .i64 a1] w fun e w' => e = .returned (.bool true) ∧ Below w.heap.size w w' := by
  have hu34 := Try.underlying34
  have hu39 := Try.underlying39
  have HR0_1 := Aside0.mk hr0_1
  have HC0_1 := Aside0.mk hc0_1
  clear hr0_1 hc0_1
  have HB := ra (Below.refl w.heap.size w)
  have H : ((laws_szProbeTube.f a0_0 l0_1 1048576).bind fun t436 => (if t436 < 0 then (some true) else ((laws_toProbeTube.f k a0_0 l0_1).bind fun bt437 => ((spec_ProbeCut.f k bt437.1 bt437.2 a1).bind fun bt441 => ((laws_toProbeTube.f k a0_0 l0_1).bind fun bt446 => ((impl_ProbeCut.f k bt446.1 bt446.2 a1).bind fun bt451 => ((laws_eqProbeTube.f k bt451.1 bt451.2 bt441.1 bt441.2).bind fun t456 => (if t456 = true then ((laws_toProbeTube.f k a0_0 l0_1).bind fun bt457 => ((laws_eqProbeTube.f k bt446.1 bt446.2 bt457.1 bt457.2).bind fun t461 => (if t461 = true then ((laws_markProbeTube.f k bt446.1 bt446.2 1).bind fun bt462 => (if bt462.1 < 0 then (laws_FnExactProbeCut.j0 k a1 true a0_0 l0_1 bt441.1 bt441.2 bt451.1 bt451.2) else ((laws_eqProbeTube.f k bt451.1 bt451.2 bt441.1 bt441.2).bind fun t464 => (laws_FnExactProbeCut.j0 k a1 (!t464) a0_0 l0_1 bt441.1 bt441.2 bt451.1 bt451.2)))) else (some false)))) else (some false))))))))) = some true := h
  clear h
  obtain ⟨t436, A3, H⟩ := bo H
  by_cases c4 : t436 < 0
  · rw [if_pos c4] at H
    have c4b0 : decide (t436 < 0) = true := decide_eq_true c4
    clear c4 H
    go_enter Try.func10, Try.ntmps10
    go_wp2_with (first | ((with_reducible refine gate_dst (N := 2) rfl ?_); refine be 2 #[.string a0_0, .slice A0_1 l0_1.length c0_1] 34 ?_; intro gb435 hg w5 hbox hb; have n0 := bs hb; have n1 := ra (hbox); have n2 := bz (w0 := w) hg; have n3 := bz (w0 := w) hg; clear HB; have HB := n0; have BK435 := n1; have GW435 := n2; have GE435 := n3; clear n0 n1 n2 n3; clear hb hbox hg; obtain ⟨hcz6_0, hcz6_1, hfz6_0, hfz6_1⟩ := zc2 BK435) | ((with_reducible refine gate_callee (f := 20) rfl ?_); refine gl (some 15) Try.func20 #[.agg #[.string a0_0, .slice A0_1 l0_1.length c0_1], .int .i64 1048576] ?_; (with_reducible refine (laws_szProbeTube.calls a0_0 _ _ l0_1 1048576 t436 _ ?side1 ?side2 A3.out).mono ?_); (case side1 => exact sc HR0_1); (case side2 => exact HC0_1.out); rintro e w7 ⟨rfl, hb⟩; refine ⟨_, rfl, ?_⟩; have n0 := bb (bk BK435) hb; have n1 := bs hb; clear BK435 HB; have BK435 := n0; have HB := n1; clear n0 n1; (try clear hb); (try clear hb2); (try clear hk); (try clear hi)))
    go_ret
    exact ⟨re, bq⟩
  · rw [if_neg c4] at H
    have c4b0 : decide (t436 < 0) = false := decide_eq_false c4
    clear c4
    obtain ⟨⟨t437, t438⟩, A8, H⟩ := bo H
    try dsimp only at H
    obtain ⟨⟨t441, t442⟩, A9, H⟩ := bo H
    try dsimp only at H
    obtain ⟨⟨t446, t447⟩, A10, H⟩ := bo H
    try dsimp only at H
    obtain ⟨⟨t451, t452⟩, A11, H⟩ := bo H
    try dsimp only at H
    obtain ⟨t456, A12, H⟩ := bo H
    by_cases c13 : t456 = true
    · subst c13
      replace H := it H rfl
      obtain ⟨⟨t457, t458⟩, A14, H⟩ := bo H
      try dsimp only at H
      obtain ⟨t461, A15, H⟩ := bo H
      by_cases c16 : t461 = true
      · subst c16
        replace H := it H rfl
        obtain ⟨⟨t462, t463⟩, A17, H⟩ := bo H
        try dsimp only at H
        have HC18 := Aside0.mk H
        clear H
        go_enter Try.func10, Try.ntmps10
        try go_wp2_with (first | ((with_reducible refine gate_dst (N := 2) rfl ?_); refine be 2 #[.string a0_0, .slice A0_1 l0_1.length c0_1] 34 ?_; intro gb435 hg w19 hbox hb; have n0 := bs hb; have n1 := ra (hbox); have n2 := bz (w0 := w) hg; have n3 := bz (w0 := w) hg; clear HB; have HB := n0; have BK435 := n1; have GW435 := n2; have GE435 := n3; clear n0 n1 n2 n3; clear hb hbox hg; obtain ⟨hcz20_0, hcz20_1, hfz20_0, hfz20_1⟩ := zc2 BK435) | ((with_reducible refine gate_callee (f := 20) rfl ?_); refine gl (some 15) Try.func20 #[.agg #[.string a0_0, .slice A0_1 l0_1.length c0_1], .int .i64 1048576] ?_; (with_reducible refine (laws_szProbeTube.calls a0_0 _ _ l0_1 1048576 t436 _ ?side1 ?side2 A3.out).mono ?_); (case side1 => exact sc HR0_1); (case side2 => exact HC0_1.out); rintro e w21 ⟨rfl, hb⟩; refine ⟨_, rfl, ?_⟩; have n0 := bb (bk BK435) hb; have n1 := bs hb; clear BK435 HB; have BK435 := n0; have HB := n1; clear n0 n1; (try clear hb); (try clear hb2); (try clear hk); (try clear hi); obtain ⟨hcz22_0, hcz22_1, hfz22_0, hfz22_1⟩ := zc2 BK435) | ((with_reducible refine gate_callee (f := 22) rfl ?_); refine gl (some 19) Try.func22 #[.agg #[.string a0_0, .slice A0_1 l0_1.length c0_1]] ?_; (with_reducible refine (laws_toProbeTube.calls k a0_0 _ _ l0_1 t437 t438 _ ?side1 ?side2 A8.out).mono ?_); (case side1 => exact sc HR0_1); (case side2 => exact HC0_1.out); rintro e w23 ⟨v439, rfl, ho0, hb⟩; refine ⟨_, rfl, ?_⟩; have n0 := ra (Kd.R_lower ho0 (below_size bq)); have n1 := bb (bk BK435) hb; have n2 := bs hb; clear BK435 HB; have HO440 := n0; have BK435 := n1; have HB := n2; clear n0 n1 n2; (try clear hb); (try clear hb2); (try clear hk); (try clear hi); (try clear ho0); obtain ⟨Ao24, co24, eo24⟩ := Kd.R_slice HO440.out; subst eo24) | ((with_reducible refine gate_callee (f := 35) rfl ?_); refine gl (some 21) Try.func35 #[.agg #[.string t437, .slice Ao24 t438.length co24], .int .i64 a1] ?_; (with_reducible refine (spec_ProbeCut.calls k t437 _ _ t438 a1 t441 t442 _ ?side1 ?side2 A9.out).mono ?_); (case side1 => exact sr HO440); (case side2 => exact (Kd.R_reads' HO440.out).2.1); rintro e w25 ⟨v443, rfl, ho0, hb⟩; refine ⟨_, rfl, ?_⟩; have n0 := ra (Kd.R_elder' (rq HO440) (Kd.R_base ho0) hb); have n1 := ra (Kd.R_lower (Kd.R_new' ho0 (Kd.R_lt (rq HO440))) (below_size bq)); have n2 := bb (bk BK435) hb; have n3 := bs hb; clear HO440 BK435 HB; have HO440 := n0; have HO444 := n1; have BK435 := n2; have HB := n3; clear n0 n1 n2 n3; (try clear hb); (try clear hb2); (try clear hk); (try clear hi); (try clear ho0)) | ((with_reducible refine gate_dst (N := 6) rfl ?_); refine be 6 #[.string (⟨#[]⟩ : ByteArray), .slice none 0 0] 39 ?_; intro gb445 hg w26 hbox hb; have n0 := ra (Kd.R_below (rq HO440) hb); have n1 := ra (Kd.R_below (rq HO444) hb); have n2 := bb (bk BK435) hb; have n3 := bs hb; have n4 := ra (hbox); have n5 := bz (w0 := w) hg; have n6 := bz (w0 := w) hg; have n7 := bn hg (bk BK435); have n8_ := bm hg (bk BK435); clear HO440 HO444 BK435 HB; have HO440 := n0; have HO444 := n1; have BK435 := n2; have HB := n3; have BK445 := n4; have GW445 := n5; have GE445 := n6; have NB435_445 := n7; have NB445_435 := n8_; clear n0 n1 n2 n3 n4 n5 n6 n7 n8_; clear hb hbox hg; have hnb27 := NB445_435.out; have hnc27 := NB435_445.out; obtain ⟨hcz28_0, hcz28_1, hfz28_0, hfz28_1⟩ := zc2 BK445; obtain ⟨Ao29, co29, eo29⟩ := Kd.R_slice HO444.out; subst eo29; obtain ⟨hcz30_0, hcz30_1, hfz30_0, hfz30_1⟩ := zc2 BK435) | ((with_reducible refine gate_callee (f := 22) rfl ?_); refine gl (some 23) Try.func22 #[.agg #[.string a0_0, .slice A0_1 l0_1.length c0_1]] ?_; (with_reducible refine (laws_toProbeTube.calls k a0_0 _ _ l0_1 t446 t447 _ ?side1 ?side2 A10.out).mono ?_); (case side1 => exact Kd.C_below HR0_1.out bq); (case side2 => exact HC0_1.out); rintro e w31 ⟨v448, rfl, ho0, hb⟩; refine ⟨_, rfl, ?_⟩; have n0 := ra (Kd.R_elder' (Kd.R_mono (rf (Kd.R_types HO440.out BK445.out (by decide))) (fun _ h_ => h_.1)) (Kd.R_base ho0) hb); have n1 := ra (Kd.R_elder' (Kd.R_mono (rf (Kd.R_types HO444.out BK445.out (by decide))) (fun _ h_ => h_.1)) (Kd.R_base ho0) hb); have n2 := ra (Kd.R_lower (Kd.R_new' (Kd.R_new' ho0 (Kd.R_lt (Kd.R_mono (rf (Kd.R_types HO440.out BK445.out (by decide))) (fun _ h_ => h_.1)))) (Kd.R_lt (Kd.R_mono (rf (Kd.R_types HO444.out BK445.out (by decide))) (fun _ h_ => h_.1)))) (below_size bq)); have n3 := bb (bk BK435) hb; have n4 := bb (o := .cells #[.string t441, .slice Ao29 t442.length co29] 39 (0, 0)) (bp BK445) hb; have n5 := bs hb; clear HO440 HO444 BK435 BK445 HB; have HO440 := n0; have HO444 := n1; have HO449 := n2; have BK435 := n3; have BK445 := n4; have HB := n5; clear n0 n1 n2 n3 n4 n5; (try clear hb); (try clear hb2); (try clear hk); (try clear hi); (try clear ho0)) | ((with_reducible refine gate_dst (N := 7) rfl ?_); refine be 7 #[.string (⟨#[]⟩ : ByteArray), .slice none 0 0] 39 ?_; intro gb450 hg w32 hbox hb; have n0 := ra (Kd.R_below (rq HO440) hb); have n1 := ra (Kd.R_below (rq HO444) hb); have n2 := ra (Kd.R_below (rq HO449) hb); have n3 := bb (bk BK435) hb; have n4 := bb (bk BK445) hb; have n5 := bs hb; have n6 := ra (hbox); have n7 := bz (w0 := w) hg; have n8_ := bz (w0 := w) hg; have n9_ := bn hg (bk BK435); have n10_ := bm hg (bk BK435); have n11_ := bn hg (bk BK445); have n12_ := bm hg (bk BK445); clear HO440 HO444 HO449 BK435 BK445 HB; have HO440 := n0; have HO444 := n1; have HO449 := n2; have BK435 := n3; have BK445 := n4; have HB := n5; have BK450 := n6; have GW450 := n7; have GE450 := n8_; have NB435_450 := n9_; have NB450_435 := n10_; have NB445_450 := n11_; have NB450_445 := n12_; clear n0 n1 n2 n3 n4 n5 n6 n7 n8_ n9_ n10_ n11_ n12_; clear hb hbox hg; have hnb33 := NB450_435.out; have hnc33 := NB435_450.out; have hnb34 := NB450_445.out; have hnc34 := NB445_450.out; obtain ⟨hcz35_0, hcz35_1, hfz35_0, hfz35_1⟩ := zc2 BK450; obtain ⟨Ao36, co36, eo36⟩ := Kd.R_slice HO449.out; subst eo36) | ((with_reducible refine gate_callee (f := 36) rfl ?_); refine gl (some 26) Try.func36 #[.agg #[.string t446, .slice Ao36 t447.length co36], .int .i64 a1] ?_; (with_reducible refine (impl_ProbeCut.calls k t446 _ _ t447 a1 t451 t452 _ ?side1 ?side2 A11.out).mono ?_); (case side1 => refine (Kd.R_reads' (e := 26) (base := w.heap.size) (ok := fun k_ => ((True ∧ some k_ ≠ (.slice Ao24 t438.length co24 : Value).ownBlock) ∧ some k_ ≠ (.slice Ao29 t442.length co29 : Value).ownBlock)) (n := t447.length) (c := co36) ?_).2.2; exact (Kd.R_mono (rf (Kd.R_types HO449.out BK450.out (by decide))) (fun _ h_ => h_.1))); (case side2 => exact (Kd.R_reads' HO449.out).2.1); rintro e w37 ⟨v453, rfl, ho0, hb⟩; refine ⟨_, rfl, ?_⟩; have n0 := ra (Kd.R_elder' (Kd.R_mono (rf (Kd.R_types HO440.out BK450.out (by decide))) (fun _ h_ => h_.1)) (Kd.R_base ho0) hb); have n1 := ra (Kd.R_elder' (Kd.R_mono (rf (Kd.R_types HO444.out BK450.out (by decide))) (fun _ h_ => h_.1)) (Kd.R_base ho0) hb); have n2 := ra (Kd.R_elder' (Kd.R_mono (rf (Kd.R_types HO449.out BK450.out (by decide))) (fun _ h_ => h_.1)) (Kd.R_base ho0) hb); have n3 := ra (Kd.R_lower (Kd.R_new' (Kd.R_new' (Kd.R_new' ho0 (Kd.R_lt (Kd.R_mono (rf (Kd.R_types HO440.out BK450.out (by decide))) (fun _ h_ => h_.1)))) (Kd.R_lt (Kd.R_mono (rf (Kd.R_types HO444.out BK450.out (by decide))) (fun _ h_ => h_.1)))) (Kd.R_lt (Kd.R_mono (rf (Kd.R_types HO449.out BK450.out (by decide))) (fun _ h_ => h_.1)))) (below_size bq)); have n4 := bb (bk BK435) hb; have n5 := bb (bk BK445) hb; have n6 := bb (o := .cells #[.string t446, .slice Ao36 t447.length co36] 39 (0, 0)) (bp BK450) hb; have n7 := bs hb; clear HO440 HO444 HO449 BK435 BK445 BK450 HB; have HO440 := n0; have HO444 := n1; have HO449 := n2; have HO454 := n3; have BK435 := n4; have BK445 := n5; have BK450 := n6; have HB := n7; clear n0 n1 n2 n3 n4 n5 n6 n7; (try clear hb); (try clear hb2); (try clear hk); (try clear hi); (try clear ho0)) | ((with_reducible refine gate_dst (N := 8) rfl ?_); refine be 8 #[.string (⟨#[]⟩ : ByteArray), .slice none 0 0] 39 ?_; intro gb455 hg w38 hbox hb; have n0 := ra (Kd.R_below (rq HO440) hb); have n1 := ra (Kd.R_below (rq HO444) hb); have n2 := ra (Kd.R_below (rq HO449) hb); have n3 := ra (Kd.R_below (rq HO454) hb); have n4 := bb (bk BK435) hb; have n5 := bb (bk BK445) hb; have n6 := bb (bk BK450) hb; have n7 := bs hb; have n8_ := ra (hbox); have n9_ := bz (w0 := w) hg; have n10_ := bz (w0 := w) hg; have n11_ := bn hg (bk BK435); have n12_ := bm hg (bk BK435); have n13_ := bn hg (bk BK445); have n14_ := bm hg (bk BK445); have n15_ := bn hg (bk BK450); have n16_ := bm hg (bk BK450); clear HO440 HO444 HO449 HO454 BK435 BK445 BK450 HB; have HO440 := n0; have HO444 := n1; have HO449 := n2; have HO454 := n3; have BK435 := n4; have BK445 := n5; have BK450 := n6; have HB := n7; have BK455 := n8_; have GW455 := n9_; have GE455 := n10_; have NB435_455 := n11_; have NB455_435 := n12_; have NB445_455 := n13_; have NB455_445 := n14_; have NB450_455 := n15_; have NB455_450 := n16_; clear n0 n1 n2 n3 n4 n5 n6 n7 n8_ n9_ n10_ n11_ n12_ n13_ n14_ n15_ n16_; clear hb hbox hg; have hnb39 := NB455_435.out; have hnc39 := NB435_455.out; have hnb40 := NB455_445.out; have hnc40 := NB445_455.out; have hnb41 := NB455_450.out; have hnc41 := NB450_455.out; obtain ⟨hcz42_0, hcz42_1, hfz42_0, hfz42_1⟩ := zc2 BK455; obtain ⟨Ao43, co43, eo43⟩ := Kd.R_slice HO454.out; subst eo43; obtain ⟨hcz44_0, hcz44_1, hfz44_0, hfz44_1⟩ := zc2 BK445) | ((with_reducible refine gate_callee (f := 24) rfl ?_); refine gl (some 29) Try.func24 #[.agg #[.string t451, .slice Ao43 t452.length co43], .agg #[.string t441, .slice Ao29 t442.length co29]] ?_; (with_reducible refine (laws_eqProbeTube.calls k t451 _ _ t452 t441 _ _ t442 true _ ?side1 ?side2 ?side3 ?side4 A12.out).mono ?_); (case side1 => refine (Kd.R_reads' (e := 26) (base := w.heap.size) (ok := fun k_ => (((True ∧ some k_ ≠ (.slice Ao24 t438.length co24 : Value).ownBlock) ∧ some k_ ≠ (.slice Ao29 t442.length co29 : Value).ownBlock) ∧ some k_ ≠ (.slice Ao36 t447.length co36 : Value).ownBlock)) (n := t452.length) (c := co43) ?_).2.2; exact (Kd.R_mono (rf (Kd.R_types HO454.out BK455.out (by decide))) (fun _ h_ => h_.1))); (case side2 => exact (Kd.R_reads' HO454.out).2.1); (case side3 => refine (Kd.R_reads' (e := 26) (base := w.heap.size) (ok := fun k_ => (((True ∧ some k_ ≠ (.slice Ao24 t438.length co24 : Value).ownBlock) ∧ some k_ ≠ (.slice Ao36 t447.length co36 : Value).ownBlock) ∧ some k_ ≠ (.slice Ao43 t452.length co43 : Value).ownBlock)) (n := t442.length) (c := co29) ?_).2.2; exact (Kd.R_mono (rf (Kd.R_types HO444.out BK455.out (by decide))) (fun _ h_ => h_.1))); (case side4 => exact (Kd.R_reads' HO444.out).2.1); rintro e w45 ⟨rfl, hb⟩; refine ⟨_, rfl, ?_⟩; have n0 := ra (Kd.R_below (Kd.R_mono (rf (Kd.R_types HO440.out BK455.out (by decide))) (fun _ h_ => h_.1)) hb); have n1 := ra (Kd.R_below (Kd.R_mono (rf (Kd.R_types HO444.out BK455.out (by decide))) (fun _ h_ => h_.1)) hb); have n2 := ra (Kd.R_below (Kd.R_mono (rf (Kd.R_types HO449.out BK455.out (by decide))) (fun _ h_ => h_.1)) hb); have n3 := ra (Kd.R_below (Kd.R_mono (rf (Kd.R_types HO454.out BK455.out (by decide))) (fun _ h_ => h_.1)) hb); have n4 := bb (bk BK435) hb; have n5 := bb (bk BK445) hb; have n6 := bb (bk BK450) hb; have n7 := bb (o := .cells #[.string t451, .slice Ao43 t452.length co43] 39 (0, 0)) (bp BK455) hb; have n8_ := bs hb; clear HO440 HO444 HO449 HO454 BK435 BK445 BK450 BK455 HB; have HO440 := n0; have HO444 := n1; have HO449 := n2; have HO454 := n3; have BK435 := n4; have BK445 := n5; have BK450 := n6; have BK455 := n7; have HB := n8_; clear n0 n1 n2 n3 n4 n5 n6 n7 n8_; (try clear hb); (try clear hb2); (try clear hk); (try clear hi)))
        have n0 := ra (Kd.R_drew HO440.out)
        have n1 := ra (Kd.R_drew HO444.out)
        have n2 := ra (Kd.R_drew HO449.out)
        have n3 := ra (Kd.R_drew HO454.out)
        have n4 := ra (blk_drew BK435.out)
        have n5 := ra (blk_drew BK445.out)
        have n6 := ra (blk_drew BK450.out)
        have n7 := ra (blk_drew BK455.out)
        have n8_ := ra (below_drew1 HB.out)
        clear HO440 HO444 HO449 HO454 BK435 BK445 BK450 BK455 HB
        have HO440 := n0
        have HO444 := n1
        have HO449 := n2
        have HO454 := n3
        have BK435 := n4
        have BK445 := n5
        have BK450 := n6
        have BK455 := n7
        have HB := n8_
        clear n0 n1 n2 n3 n4 n5 n6 n7 n8_
        refine start_ (n := 5) (S := fun w' => w'.cell? ⟨gb450, 0, none⟩ = some (.string t446) ∧ w'.cell? ⟨gb450, 1, none⟩ = some (.slice Ao36 t447.length co36) ∧ w'.cell? ⟨gb435, 0, none⟩ = some (.string a0_0) ∧ w'.cell? ⟨gb435, 1, none⟩ = some (.slice A0_1 l0_1.length c0_1)) (ds := []) (bl 5 0) (by kernel_rfl) rfl rfl ⟨(blk_cell BK450.out 0).trans rfl, (blk_cell BK450.out 1).trans rfl, (blk_cell BK435.out 0).trans rfl, (blk_cell BK435.out 1).trans rfl⟩ (fun hHeld => ?_)
        generalize w45.drew = w46 at HO440 HO444 HO449 HO454 BK435 BK445 BK450 BK455 HB hHeld ⊢
        refine tk 0 31 (bl 5 1) ?_ hHeld
        refine tk 1 32 (bl 5 3) ?_ hHeld
        refine oe 2 33 (bl 5 7) (fun K hK => ?_)
        refine gs Try.func22 #[.agg #[.string a0_0, .slice A0_1 l0_1.length c0_1]] ?_
        with_reducible refine (laws_toProbeTube.calls k a0_0 _ _ l0_1 t457 t458 _ ?side1 ?side2 A14.out).mono ?_
        (case side1 => exact sc HR0_1)
        (case side2 => exact HC0_1.out)
        rintro e w47 ⟨v459, rfl, ho0, hb⟩
        refine ⟨_, rfl, ?_⟩
        have n0 := ra (Kd.R_elder' (rq HO440) (Kd.R_base ho0) hb)
        have n1 := ra (Kd.R_elder' (rq HO444) (Kd.R_base ho0) hb)
        have n2 := ra (Kd.R_elder' (rq HO449) (Kd.R_base ho0) hb)
        have n3 := ra (Kd.R_elder' (rq HO454) (Kd.R_base ho0) hb)
        have n4 := ra (Kd.R_lower (Kd.R_new' (Kd.R_new' (Kd.R_new' (Kd.R_new' ho0 (Kd.R_lt (rq HO440))) (Kd.R_lt (rq HO444))) (Kd.R_lt (rq HO449))) (Kd.R_lt (rq HO454))) (below_size bq))
        have n5 := bb (bk BK435) hb
        have n6 := bb (bk BK445) hb
        have n7 := bb (bk BK450) hb
        have n8_ := bb (bk BK455) hb
        have n9_ := bs hb
        clear HO440 HO444 HO449 HO454 BK435 BK445 BK450 BK455 HB
        have HO440 := n0
        have HO444 := n1
        have HO449 := n2
        have HO454 := n3
        have HO460 := n4
        have BK435 := n5
        have BK445 := n6
        have BK450 := n7
        have BK455 := n8_
        have HB := n9_
        clear n0 n1 n2 n3 n4 n5 n6 n7 n8_ n9_
        (try clear hb)
        (try clear hb2)
        (try clear hk)
        (try clear hi)
        (try clear ho0)
        obtain ⟨Ao48, co48, eo48⟩ := Kd.R_slice HO460.out
        (first | subst eo48 | (injection eo48 with f1_ f2_ f3_; have f4_ := f1_.symm; have f5_ := f3_.symm; clear f1_ f2_ f3_; subst f4_; subst f5_))
        refine hK.out _ _ ⟨(blk_cell BK450.out 0).trans rfl, (blk_cell BK450.out 1).trans rfl, (blk_cell BK435.out 0).trans rfl, (blk_cell BK435.out 1).trans rfl⟩ (fun hHeld => ?_)
        clear hK K
        refine nm 33 ?_
        refine oe 3 34 (bl 5 15) (fun K hK => ?_)
        refine gs Try.func24 #[.agg #[.string t446, .slice Ao36 t447.length co36], .agg #[.string t457, .slice Ao48 t458.length co48]] ?_
        with_reducible refine (laws_eqProbeTube.calls k t446 _ _ t447 t457 _ _ t458 true _ ?side1 ?side2 ?side3 ?side4 A15.out).mono ?_
        (case side1 => exact sr HO449)
        (case side2 => exact (Kd.R_reads' HO449.out).2.1)
        (case side3 => exact sr HO460)
        (case side4 => exact (Kd.R_reads' HO460.out).2.1)
        rintro e w49 ⟨rfl, hb⟩
        refine ⟨_, rfl, ?_⟩
        have n0 := ra (Kd.R_below (rq HO440) hb)
        have n1 := ra (Kd.R_below (rq HO444) hb)
        have n2 := ra (Kd.R_below (rq HO449) hb)
        have n3 := ra (Kd.R_below (rq HO454) hb)
        have n4 := ra (Kd.R_below (rq HO460) hb)
        have n5 := bb (bk BK435) hb
        have n6 := bb (bk BK445) hb
        have n7 := bb (bk BK450) hb
        have n8_ := bb (bk BK455) hb
        have n9_ := bs hb
        clear HO440 HO444 HO449 HO454 HO460 BK435 BK445 BK450 BK455 HB
        have HO440 := n0
        have HO444 := n1
        have HO449 := n2
        have HO454 := n3
        have HO460 := n4
        have BK435 := n5
        have BK445 := n6
        have BK450 := n7
        have BK455 := n8_
        have HB := n9_
        clear n0 n1 n2 n3 n4 n5 n6 n7 n8_ n9_
        (try clear hb)
        (try clear hb2)
        (try clear hk)
        (try clear hi)
        refine hK.out _ _ ⟨(blk_cell BK450.out 0).trans rfl, (blk_cell BK450.out 1).trans rfl, (blk_cell BK435.out 0).trans rfl, (blk_cell BK435.out 1).trans rfl⟩ (fun hHeld => ?_)
        clear hK K
        refine nm 34 ?_
        refine pu 4 35 (bl 5 31) ?_
        refine done_ (by kernel_rfl) ?_
        obtain ⟨hcz50_0, hcz50_1, hfz50_0, hfz50_1⟩ := zc2 BK450
        go_upto_region 14 with (first | ((with_reducible refine gate_callee (f := 37) rfl ?_); refine gl (some 38) Try.func37 #[.agg #[.string t446, .slice Ao36 t447.length co36], .int .i64 1] ?_; (with_reducible refine (laws_markProbeTube.calls k t446 (fun k_ => some k_ = (.slice Ao36 t447.length co36 : Value).ownBlock) (.slice Ao36 t447.length co36) t447 1 t462 t463 w _ ?side1 ?side2 A17.out).mono ?_); (case side1 => repeat (first | (with_reducible first | exact HB.out | apply below_alloc | apply pw_below_drewN | apply below_drew1 | refine below_set ?_ GE435.out | refine below_set ?_ GE445.out | refine below_set ?_ GE450.out | refine below_set ?_ GE455.out) | exact HB.out)); (case side2 => exact Kd.R_tight rfl HO449.out); rintro e w51 ⟨rfl, hy0, hb, hkp⟩; refine ⟨_, rfl, ?_⟩; have n0 := ra (blk_kept (bk BK435) hkp (fun hs_ => (fun e_ => (Kd.R_ne HO449.out BK435.out (by decide)) e_) hs_)); have n1 := ra (Kd.R_mono (ok' := fun k_ => some k_ ≠ (.slice Ao29 t442.length co29 : Value).ownBlock ∧ some k_ ≠ (.slice Ao36 t447.length co36 : Value).ownBlock ∧ some k_ ≠ (.slice Ao43 t452.length co43 : Value).ownBlock ∧ some k_ ≠ (.slice Ao48 t458.length co48 : Value).ownBlock) (Kd.R_keptB (HO440.out) hkp (fun k_ hk_ hs_ => (hk_.1.1.2) hs_)) (fun k_ hk_ => ⟨hk_.1.1.1.1.2, hk_.1.1.1.2, hk_.1.1.2, hk_.1.2⟩)); have n2 := ra (Kd.R_mono (ok' := fun k_ => some k_ ≠ (.slice Ao24 t438.length co24 : Value).ownBlock ∧ some k_ ≠ (.slice Ao36 t447.length co36 : Value).ownBlock ∧ some k_ ≠ (.slice Ao43 t452.length co43 : Value).ownBlock ∧ some k_ ≠ (.slice Ao48 t458.length co48 : Value).ownBlock) (Kd.R_keptB (HO444.out) hkp (fun k_ hk_ hs_ => (hk_.1.1.2) hs_)) (fun k_ hk_ => ⟨hk_.1.1.1.1.2, hk_.1.1.1.2, hk_.1.1.2, hk_.1.2⟩)); have n3 := ra (blk_kept (bk BK445) hkp (fun hs_ => (fun e_ => (Kd.R_ne HO449.out BK445.out (by decide)) e_) hs_)); have n4 := ra (Kd.R_reok rfl hy0 (fun k_ e_ => HO449.out.1 k_ e_)); have n5 := ra (blk_kept (bk BK450) hkp (fun hs_ => (fun e_ => (Kd.R_ne HO449.out BK450.out (by decide)) e_) hs_)); have n6 := ra (Kd.R_mono (ok' := fun k_ => some k_ ≠ (.slice Ao24 t438.length co24 : Value).ownBlock ∧ some k_ ≠ (.slice Ao29 t442.length co29 : Value).ownBlock ∧ some k_ ≠ (.slice Ao36 t447.length co36 : Value).ownBlock ∧ some k_ ≠ (.slice Ao48 t458.length co48 : Value).ownBlock) (Kd.R_keptB (HO454.out) hkp (fun k_ hk_ hs_ => (hk_.1.2) hs_)) (fun k_ hk_ => ⟨hk_.1.1.1.1.2, hk_.1.1.1.2, hk_.1.1.2, hk_.1.2⟩)); have n7 := ra (blk_kept (bk BK455) hkp (fun hs_ => (fun e_ => (Kd.R_ne HO449.out BK455.out (by decide)) e_) hs_)); have n8_ := ra (Kd.R_mono (ok' := fun k_ => some k_ ≠ (.slice Ao24 t438.length co24 : Value).ownBlock ∧ some k_ ≠ (.slice Ao29 t442.length co29 : Value).ownBlock ∧ some k_ ≠ (.slice Ao36 t447.length co36 : Value).ownBlock ∧ some k_ ≠ (.slice Ao43 t452.length co43 : Value).ownBlock) (Kd.R_keptB (HO460.out) hkp (fun k_ hk_ hs_ => (hk_.1.2) hs_)) (fun k_ hk_ => ⟨hk_.1.1.1.1.2, hk_.1.1.1.2, hk_.1.1.2, hk_.1.2⟩)); have n9_ := ra (hb); clear BK435 HO440 HO444 BK445 HO449 BK450 HO454 BK455 HO460 HB; have BK435 := n0; have HO440 := n1; have HO444 := n2; have BK445 := n3; have HO449 := n4; have BK450 := n5; have HO454 := n6; have BK455 := n7; have HO460 := n8_; have HB := n9_; clear n0 n1 n2 n3 n4 n5 n6 n7 n8_ n9_; (try clear hb); (try clear hkp); (try clear hy0)))
        (try simp only [Act.put, List.setIfInBounds_toArray, List.set_cons_zero, List.set_cons_succ])
        go_cut [46] (fun v46 wc => ∃ (kq : Nat) (x46_17 : Bool), v46 = .bool x46_17 ∧ Aside0 (laws_FnExactProbeCut.j0 kq a1 x46_17 a0_0 l0_1 t441 t442 t451 t452 = some true) ∧ Aside0 (kq ≤ k) ∧ Aside0 (Kd.R k26 26 wc w.heap.size (fun k_ => some k_ ≠ ((.slice Ao36 t447.length co36) : Value).ownBlock ∧ some k_ ≠ ((.slice Ao43 t452.length co43) : Value).ownBlock) (.slice Ao29 t442.length co29) t442) ∧ Aside0 (Kd.R k26 26 wc w.heap.size (fun k_ => some k_ ≠ ((.slice Ao29 t442.length co29) : Value).ownBlock ∧ some k_ ≠ ((.slice Ao43 t452.length co43) : Value).ownBlock) (.slice Ao36 t447.length co36) t463) ∧ Aside0 (Kd.R k26 26 wc w.heap.size (fun k_ => some k_ ≠ ((.slice Ao29 t442.length co29) : Value).ownBlock ∧ some k_ ≠ ((.slice Ao36 t447.length co36) : Value).ownBlock) (.slice Ao43 t452.length co43) t452) ∧ Aside0 (wc.heap[gb435]? = some (.cells #[.string a0_0, (.slice A0_1 l0_1.length c0_1)] 34 (0, 0))) ∧ Aside0 (wc.heap[gb445]? = some (.cells #[.string t441, (.slice Ao29 t442.length co29)] 39 (0, 0))) ∧ Aside0 (wc.heap[gb450]? = some (.cells #[.string t446, (.slice Ao36 t447.length co36)] 39 (0, 0))) ∧ Aside0 (wc.heap[gb455]? = some (.cells #[.string t451, (.slice Ao43 t452.length co43)] 39 (0, 0))) ∧ Aside0 (Below w.heap.size w wc))
        case first =>
          have H := HC18.out
          clear HC18
          by_cases c52 : t462 < 0
          · rw [if_pos c52] at H
            have c52b0 : decide (t462 < 0) = true := decide_eq_true c52
            clear c52
            (first | rw [c52b0] | (simp only [i64_w, i32_w]; rw [c52b0]) | skip)
            have H' := Aside0.mk H
            clear H
            go_wp2
            go_meet
            case rel => exact ⟨_, (true), rs, H', ⟨by first | omega | exact Nat.le_refl _⟩, ⟨by (with_reducible repeat (first | apply Kd.R_alloc | apply Kd.R_drewN | apply Kd.R_drew)); exact Kd.R_mono HO444.out (fun _ hk => ⟨hk.2.1, hk.2.2.1⟩)⟩, ⟨by (with_reducible repeat (first | apply Kd.R_alloc | apply Kd.R_drewN | apply Kd.R_drew)); exact Kd.R_mono HO449.out (fun _ hk => ⟨hk.1.1.2, hk.1.2⟩)⟩, ⟨by (with_reducible repeat (first | apply Kd.R_alloc | apply Kd.R_drewN | apply Kd.R_drew)); exact Kd.R_mono HO454.out (fun _ hk => ⟨hk.2.1, hk.2.2.1⟩)⟩, ⟨bk BK435⟩, ⟨bk BK445⟩, ⟨bk BK450⟩, ⟨bk BK455⟩, ⟨bq⟩⟩
          · rw [if_neg c52] at H
            have c52b0 : decide (t462 < 0) = false := decide_eq_false c52
            clear c52
            (first | rw [c52b0] | (simp only [i64_w, i32_w]; rw [c52b0]) | skip)
            obtain ⟨t464, A53, H⟩ := bo H
            have H' := Aside0.mk H
            clear H
            have hnb54 := NB455_435.out
            have hnc54 := NB435_455.out
            have hnb55 := NB455_445.out
            have hnc55 := NB445_455.out
            have hnb56 := NB455_450.out
            have hnc56 := NB450_455.out
            obtain ⟨hcz57_0, hcz57_1, hfz57_0, hfz57_1⟩ := zc2 BK455
            have hnb58 := NB445_435.out
            have hnc58 := NB435_445.out
            have hnb59 := NB445_450.out
            have hnc59 := NB450_445.out
            obtain ⟨hcz60_0, hcz60_1, hfz60_0, hfz60_1⟩ := zc2 BK445
            go_wp2_with (first | (go_at_call 24; (with_reducible refine (laws_eqProbeTube.calls k t451 _ _ t452 t441 _ _ t442 t464 _ ?side1 ?side2 ?side3 ?side4 A53.out).mono ?_); (case side1 => exact sr HO454); (case side2 => exact (Kd.R_reads' HO454.out).2.1); (case side3 => exact sr HO444); (case side4 => exact (Kd.R_reads' HO444.out).2.1); rintro e w61 ⟨rfl, hb⟩; have n0 := ra (Kd.R_below (rq HO440) hb); have n1 := ra (Kd.R_below (rq HO444) hb); have n2 := ra (Kd.R_below (rq HO449) hb); have n3 := ra (Kd.R_below (rq HO454) hb); have n4 := ra (Kd.R_below (rq HO460) hb); have n5 := bb (bk BK435) hb; have n6 := bb (bk BK445) hb; have n7 := bb (bk BK450) hb; have n8_ := bb (bk BK455) hb; have n9_ := bs hb; clear HO440 HO444 HO449 HO454 HO460 BK435 BK445 BK450 BK455 HB; have HO440 := n0; have HO444 := n1; have HO449 := n2; have HO454 := n3; have HO460 := n4; have BK435 := n5; have BK445 := n6; have BK450 := n7; have BK455 := n8_; have HB := n9_; clear n0 n1 n2 n3 n4 n5 n6 n7 n8_ n9_; (try clear hb); (try clear hb2); (try clear hk); (try clear hi)))
            go_meet
            case rel => exact ⟨_, (!t464), rs, H', ⟨by first | omega | exact Nat.le_refl _⟩, ⟨by (with_reducible repeat (first | apply Kd.R_alloc | apply Kd.R_drewN | apply Kd.R_drew)); exact Kd.R_mono HO444.out (fun _ hk => ⟨hk.2.1, hk.2.2.1⟩)⟩, ⟨by (with_reducible repeat (first | apply Kd.R_alloc | apply Kd.R_drewN | apply Kd.R_drew)); exact Kd.R_mono HO449.out (fun _ hk => ⟨hk.1.1.2, hk.1.2⟩)⟩, ⟨by (with_reducible repeat (first | apply Kd.R_alloc | apply Kd.R_drewN | apply Kd.R_drew)); exact Kd.R_mono HO454.out (fun _ hk => ⟨hk.2.1, hk.2.2.1⟩)⟩, ⟨bk BK435⟩, ⟨bk BK445⟩, ⟨bk BK450⟩, ⟨bk BK455⟩, ⟨bq⟩⟩
        case rest =>
          clear HC18
          try clear c4
          try clear c4b0
          try clear c13
          try clear c16
          try clear c52
          try clear c52b0
          try clear hcz20_0
          try clear hcz20_1
          try clear hcz22_0
          try clear hcz22_1
          try clear hcz28_0
          try clear hcz28_1
          try clear hcz30_0
          try clear hcz30_1
          try clear hcz35_0
          try clear hcz35_1
          try clear hcz42_0
          try clear hcz42_1
          try clear hcz44_0
          try clear hcz44_1
          try clear hcz50_0
          try clear hcz50_1
          try clear hcz57_0
          try clear hcz57_1
          try clear hcz60_0
          try clear hcz60_1
          try clear hcz6_0
          try clear hcz6_1
          try clear hfz20_0
          try clear hfz20_1
          try clear hfz22_0
          try clear hfz22_1
          try clear hfz28_0
          try clear hfz28_1
          try clear hfz30_0
          try clear hfz30_1
          try clear hfz35_0
          try clear hfz35_1
          try clear hfz42_0
          try clear hfz42_1
          try clear hfz44_0
          try clear hfz44_1
          try clear hfz50_0
          try clear hfz50_1
          try clear hfz57_0
          try clear hfz57_1
          try clear hfz60_0
          try clear hfz60_1
          try clear hfz6_0
          try clear hfz6_1
          obtain ⟨kq, x46_17, rfl, HA, HJ17, HO_446001, HO_451001, HO_456001, BK435, BK445, BK450, BK455, HB⟩ := hcut
          have hl451001_17 := (Kd.R_reads' HO_451001.out).1
          rw [hl451001_17] at HO_451001
          (try simp only [hl451001_17])
          (try simp only [hl451001_17] at BK435)
          (try simp only [hl451001_17] at BK445)
          (try simp only [hl451001_17] at BK450)
          (try simp only [hl451001_17] at BK455)
          (try simp only [hl451001_17] at HO_446001)
          (try simp only [hl451001_17] at HO_456001)
          cases kq with
          | zero => exact absurd HA.out (by simp [laws_FnExactProbeCut.j0])
          | succ kj17 =>
            have H := HA.out
            clear HA
            simp only [laws_FnExactProbeCut.j0] at H
            by_cases c62 : x46_17 = true
            · subst c62
              have H1 : (some false) = some true := by rw [if_pos rfl] at H; exact H
              clear H
              have H := H1
              exact absurd (Option.some.inj H) (by decide)
            · replace c62 := Bool.eq_false_iff.mpr c62
              subst c62
              have H1 : ((laws_markProbeTube.f kj17 t451 t452 1).bind fun bt465 => ((laws_heldProbeTube.f kj17 t451 bt465.2 1).bind fun t467 => (if t467 < 0 then (some false) else (if t467 = bt465.1 then ((laws_toProbeTube.f kj17 a0_0 l0_1).bind fun bt468 => ((impl_ProbeCut.f kj17 bt468.1 bt468.2 a1).bind fun bt472 => ((laws_eqProbeTube.f kj17 bt472.1 bt472.2 t441 t442).bind fun t477 => (if t477 = true then ((laws_heldProbeTube.f kj17 t451 bt465.2 1).bind fun t478 => (if t478 < 0 then (some false) else (if t478 = bt465.1 then (some true) else (some false)))) else (some false))))) else (some false))))) = some true := by rw [if_neg (show ¬ (false = true) by decide)] at H; exact H
              clear H
              have H := H1
              clear H1
              obtain ⟨⟨t465, t466⟩, A63, H⟩ := bo H
              try dsimp only at H
              obtain ⟨t467, A64, H⟩ := bo H
              by_cases c65 : t467 < 0
              · rw [if_pos c65] at H
                exact absurd (Option.some.inj H) (by decide)
              · rw [if_neg c65] at H
                have c65b0 : decide (t467 < 0) = false := decide_eq_false c65
                clear c65
                by_cases c73 : t467 = t465
                · rw [if_pos c73] at H
                  have c73b0 : (t467 == t465) = true := beq_iff_eq.mpr c73
                  have c73b1 : (t467 != t465) = false := bne_eq_false_iff_eq.mpr c73
                  clear c73
                  obtain ⟨⟨t468, t469⟩, A74, H⟩ := bo H
                  try dsimp only at H
                  obtain ⟨⟨t472, t473⟩, A75, H⟩ := bo H
                  try dsimp only at H
                  obtain ⟨t477, A76, H⟩ := bo H
                  by_cases c77 : t477 = true
                  · subst c77
                    replace H := it H rfl
                    obtain ⟨t478, A78, H⟩ := bo H
                    by_cases c79 : t478 < 0
                    · rw [if_pos c79] at H
                      exact absurd (Option.some.inj H) (by decide)
                    · rw [if_neg c79] at H
                      have c79b0 : decide (t478 < 0) = false := decide_eq_false c79
                      clear c79
                      by_cases c105 : t478 = t465
                      · rw [if_pos c105] at H
                        have c105b0 : (t478 == t465) = true := beq_iff_eq.mpr c105
                        have c105b1 : (t478 != t465) = false := bne_eq_false_iff_eq.mpr c105
                        clear c105 H
                        have hnb106 := NB455_435.out
                        have hnc106 := NB435_455.out
                        have hnb107 := NB455_445.out
                        have hnc107 := NB445_455.out
                        have hnb108 := NB455_450.out
                        have hnc108 := NB450_455.out
                        obtain ⟨hcz109_0, hcz109_1, hfz109_0, hfz109_1⟩ := zc2 BK455
                        go_wp2_with (first | ((with_reducible refine gate_callee (f := 37) rfl ?_); refine gl (some 49) Try.func37 #[.agg #[.string t451, .slice Ao43 t452.length co43], .int .i64 1] ?_; (with_reducible refine (laws_markProbeTube.calls kj17 t451 (fun k_ => some k_ = (.slice Ao43 t452.length co43 : Value).ownBlock) (.slice Ao43 t452.length co43) t452 1 t465 t466 w _ ?side1 ?side2 A63.out).mono ?_); (case side1 => repeat (first | (with_reducible first | exact HB.out | apply below_alloc | apply pw_below_drewN | apply below_drew1 | refine below_set ?_ GE435.out | refine below_set ?_ GE445.out | refine below_set ?_ GE450.out | refine below_set ?_ GE455.out) | exact HB.out)); (case side2 => exact Kd.R_tight rfl HO_456001.out); rintro e w110 ⟨rfl, hy0, hb, hkp⟩; refine ⟨_, rfl, ?_⟩; have n0 := ra (Kd.R_mono (ok' := fun k_ => some k_ ≠ (.slice Ao36 t463.length co36 : Value).ownBlock ∧ some k_ ≠ (.slice Ao43 t452.length co43 : Value).ownBlock) (Kd.R_keptB (HO_446001.out) hkp (fun k_ hk_ hs_ => (hk_.2) hs_)) (fun k_ hk_ => ⟨hk_.1.1, hk_.1.2⟩)); have n1 := ra (Kd.R_mono (ok' := fun k_ => some k_ ≠ (.slice Ao29 t442.length co29 : Value).ownBlock ∧ some k_ ≠ (.slice Ao43 t452.length co43 : Value).ownBlock) (Kd.R_keptB (HO_451001.out) hkp (fun k_ hk_ hs_ => (hk_.2) hs_)) (fun k_ hk_ => ⟨hk_.1.1, hk_.1.2⟩)); have n2 := ra (Kd.R_reok rfl hy0 (fun k_ e_ => HO_456001.out.1 k_ e_)); have n3 := ra (blk_kept (bk BK435) hkp (fun hs_ => (fun e_ => (Kd.R_ne HO_456001.out BK435.out (by decide)) e_) hs_)); have n4 := ra (blk_kept (bk BK445) hkp (fun hs_ => (fun e_ => (Kd.R_ne HO_456001.out BK445.out (by decide)) e_) hs_)); have n5 := ra (blk_kept (bk BK450) hkp (fun hs_ => (fun e_ => (Kd.R_ne HO_456001.out BK450.out (by decide)) e_) hs_)); have n6 := ra (blk_kept (bk BK455) hkp (fun hs_ => (fun e_ => (Kd.R_ne HO_456001.out BK455.out (by decide)) e_) hs_)); have n7 := ra (hb); clear HO_446001 HO_451001 HO_456001 BK435 BK445 BK450 BK455 HB; have HO_446001 := n0; have HO_451001 := n1; have HO_456001 := n2; have BK435 := n3; have BK445 := n4; have BK450 := n5; have BK455 := n6; have HB := n7; clear n0 n1 n2 n3 n4 n5 n6 n7; (try clear hb); (try clear hkp); (try clear hy0); obtain ⟨hcz111_0, hcz111_1, hfz111_0, hfz111_1⟩ := zc2 BK455) | ((with_reducible refine gate_callee (f := 38) rfl ?_); refine goesL_ (some 52) rfl rfl Try.func38 (by kernel_rfl) rfl #[.agg #[.string t451, .slice Ao43 t466.length co43], .int .i64 1] rfl (by (try simp only [List.map_toArray, List.map_cons, List.map_nil]); first | done | (rw [show t466.length = t452.length from (Kd.R_reads' HO_456001.out).1.symm] <;> rfl) | rfl | (simp only [List.length_drop, List.length_take]; rfl)) ?_; (with_reducible refine (laws_heldProbeTube.calls kj17 t451 _ _ t466 1 t467 _ ?side1 ?side2 A64.out).mono ?_); (case side1 => exact sr HO_456001); (case side2 => rw [show t466.length = t452.length from (Kd.R_reads' HO_456001.out).1.symm]; exact (Kd.R_reads' HO_456001.out).2.1); rintro e w112 ⟨rfl, hb⟩; refine ⟨_, rfl, ?_⟩; have n0 := ra (Kd.R_below (rq HO_446001) hb); have n1 := ra (Kd.R_below (rq HO_451001) hb); have n2 := ra (Kd.R_below (rq HO_456001) hb); have n3 := bb (bk BK435) hb; have n4 := bb (bk BK445) hb; have n5 := bb (bk BK450) hb; have n6 := bb (bk BK455) hb; have n7 := bs hb; clear HO_446001 HO_451001 HO_456001 BK435 BK445 BK450 BK455 HB; have HO_446001 := n0; have HO_451001 := n1; have HO_456001 := n2; have BK435 := n3; have BK445 := n4; have BK450 := n5; have BK455 := n6; have HB := n7; clear n0 n1 n2 n3 n4 n5 n6 n7; (try clear hb); (try clear hb2); (try clear hk); (try clear hi); have hnb113 := NB435_445.out; have hnc113 := NB445_435.out; have hnb114 := NB435_450.out; have hnc114 := NB450_435.out; obtain ⟨hcz115_0, hcz115_1, hfz115_0, hfz115_1⟩ := zc2 BK435) | ((with_reducible refine gate_callee (f := 22) rfl ?_); refine gl (some 59) Try.func22 #[.agg #[.string a0_0, .slice A0_1 l0_1.length c0_1]] ?_; (with_reducible refine (laws_toProbeTube.calls kj17 a0_0 _ _ l0_1 t468 t469 _ ?side1 ?side2 A74.out).mono ?_); (case side1 => exact sc HR0_1); (case side2 => exact HC0_1.out); rintro e w116 ⟨v470, rfl, ho0, hb⟩; refine ⟨_, rfl, ?_⟩; have n0 := ra (Kd.R_elder' (rq HO_446001) (Kd.R_base ho0) hb); have n1 := ra (Kd.R_elder' (rq HO_451001) (Kd.R_base ho0) hb); have n2 := ra (Kd.R_elder' (rq HO_456001) (Kd.R_base ho0) hb); have n3 := ra (Kd.R_lower (Kd.R_new' (Kd.R_new' (Kd.R_new' ho0 (Kd.R_lt (rq HO_446001))) (Kd.R_lt (rq HO_451001))) (Kd.R_lt (rq HO_456001))) (below_size bq)); have n4 := bb (bk BK435) hb; have n5 := bb (bk BK445) hb; have n6 := bb (bk BK450) hb; have n7 := bb (bk BK455) hb; have n8_ := bs hb; clear HO_446001 HO_451001 HO_456001 BK435 BK445 BK450 BK455 HB; have HO_446001 := n0; have HO_451001 := n1; have HO_456001 := n2; have HO471 := n3; have BK435 := n4; have BK445 := n5; have BK450 := n6; have BK455 := n7; have HB := n8_; clear n0 n1 n2 n3 n4 n5 n6 n7 n8_; (try clear hb); (try clear hb2); (try clear hk); (try clear hi); (try clear ho0); obtain ⟨Ao117, co117, eo117⟩ := Kd.R_slice HO471.out; subst eo117) | ((with_reducible refine gate_callee (f := 36) rfl ?_); refine gl (some 61) Try.func36 #[.agg #[.string t468, .slice Ao117 t469.length co117], .int .i64 a1] ?_; (with_reducible refine (impl_ProbeCut.calls kj17 t468 _ _ t469 a1 t472 t473 _ ?side1 ?side2 A75.out).mono ?_); (case side1 => exact sr HO471); (case side2 => exact (Kd.R_reads' HO471.out).2.1); rintro e w118 ⟨v474, rfl, ho0, hb⟩; refine ⟨_, rfl, ?_⟩; have n0 := ra (Kd.R_elder' (rq HO_446001) (Kd.R_base ho0) hb); have n1 := ra (Kd.R_elder' (rq HO_451001) (Kd.R_base ho0) hb); have n2 := ra (Kd.R_elder' (rq HO_456001) (Kd.R_base ho0) hb); have n3 := ra (Kd.R_elder' (rq HO471) (Kd.R_base ho0) hb); have n4 := ra (Kd.R_lower (Kd.R_new' (Kd.R_new' (Kd.R_new' (Kd.R_new' ho0 (Kd.R_lt (rq HO_446001))) (Kd.R_lt (rq HO_451001))) (Kd.R_lt (rq HO_456001))) (Kd.R_lt (rq HO471))) (below_size bq)); have n5 := bb (bk BK435) hb; have n6 := bb (bk BK445) hb; have n7 := bb (bk BK450) hb; have n8_ := bb (bk BK455) hb; have n9_ := bs hb; clear HO_446001 HO_451001 HO_456001 HO471 BK435 BK445 BK450 BK455 HB; have HO_446001 := n0; have HO_451001 := n1; have HO_456001 := n2; have HO471 := n3; have HO475 := n4; have BK435 := n5; have BK445 := n6; have BK450 := n7; have BK455 := n8_; have HB := n9_; clear n0 n1 n2 n3 n4 n5 n6 n7 n8_ n9_; (try clear hb); (try clear hb2); (try clear hk); (try clear hi); (try clear ho0)) | ((with_reducible refine gate_dst (N := 12) rfl ?_); refine be 12 #[.string (⟨#[]⟩ : ByteArray), .slice none 0 0] 39 ?_; intro gb476 hg w119 hbox hb; have n0 := ra (Kd.R_below (rq HO_446001) hb); have n1 := ra (Kd.R_below (rq HO_451001) hb); have n2 := ra (Kd.R_below (rq HO_456001) hb); have n3 := ra (Kd.R_below (rq HO471) hb); have n4 := ra (Kd.R_below (rq HO475) hb); have n5 := bb (bk BK435) hb; have n6 := bb (bk BK445) hb; have n7 := bb (bk BK450) hb; have n8_ := bb (bk BK455) hb; have n9_ := bs hb; have n10_ := ra (hbox); have n11_ := bz (w0 := w) hg; have n12_ := bz (w0 := w) hg; have n13_ := bn hg (bk BK435); have n14_ := bm hg (bk BK435); have n15_ := bn hg (bk BK445); have n16_ := bm hg (bk BK445); have n17_ := bn hg (bk BK450); have n18_ := bm hg (bk BK450); have n19_ := bn hg (bk BK455); have n20_ := bm hg (bk BK455); clear HO_446001 HO_451001 HO_456001 HO471 HO475 BK435 BK445 BK450 BK455 HB; have HO_446001 := n0; have HO_451001 := n1; have HO_456001 := n2; have HO471 := n3; have HO475 := n4; have BK435 := n5; have BK445 := n6; have BK450 := n7; have BK455 := n8_; have HB := n9_; have BK476 := n10_; have GW476 := n11_; have GE476 := n12_; have NB435_476 := n13_; have NB476_435 := n14_; have NB445_476 := n15_; have NB476_445 := n16_; have NB450_476 := n17_; have NB476_450 := n18_; have NB455_476 := n19_; have NB476_455 := n20_; clear n0 n1 n2 n3 n4 n5 n6 n7 n8_ n9_ n10_ n11_ n12_ n13_ n14_ n15_ n16_ n17_ n18_ n19_ n20_; clear hb hbox hg; have hnb120 := NB476_435.out; have hnc120 := NB435_476.out; have hnb121 := NB476_445.out; have hnc121 := NB445_476.out; have hnb122 := NB476_450.out; have hnc122 := NB450_476.out; have hnb123 := NB476_455.out; have hnc123 := NB455_476.out; obtain ⟨hcz124_0, hcz124_1, hfz124_0, hfz124_1⟩ := zc2 BK476; obtain ⟨Ao125, co125, eo125⟩ := Kd.R_slice HO475.out; subst eo125; have hnb126 := NB445_450.out; have hnc126 := NB450_445.out; obtain ⟨hcz127_0, hcz127_1, hfz127_0, hfz127_1⟩ := zc2 BK445) | ((with_reducible refine gate_callee (f := 24) rfl ?_); refine gl (some 64) Try.func24 #[.agg #[.string t472, .slice Ao125 t473.length co125], .agg #[.string t441, .slice Ao29 t442.length co29]] ?_; (with_reducible refine (laws_eqProbeTube.calls kj17 t472 _ _ t473 t441 _ _ t442 true _ ?side1 ?side2 ?side3 ?side4 A76.out).mono ?_); (case side1 => refine (Kd.R_reads' (e := 26) (base := w.heap.size) (ok := fun k_ => ((((True ∧ some k_ ≠ (.slice Ao29 t442.length co29 : Value).ownBlock) ∧ some k_ ≠ (.slice Ao36 t463.length co36 : Value).ownBlock) ∧ some k_ ≠ (.slice Ao43 t452.length co43 : Value).ownBlock) ∧ some k_ ≠ (.slice Ao117 t469.length co117 : Value).ownBlock)) (n := t473.length) (c := co125) ?_).2.2; exact (Kd.R_mono (rf (Kd.R_types HO475.out BK476.out (by decide))) (fun _ h_ => h_.1))); (case side2 => exact (Kd.R_reads' HO475.out).2.1); (case side3 => refine (Kd.R_reads' (e := 26) (base := w.heap.size) (ok := fun k_ => (((some k_ ≠ (.slice Ao36 t463.length co36 : Value).ownBlock ∧ some k_ ≠ (.slice Ao43 t452.length co43 : Value).ownBlock) ∧ some k_ ≠ (.slice Ao117 t469.length co117 : Value).ownBlock) ∧ some k_ ≠ (.slice Ao125 t473.length co125 : Value).ownBlock)) (n := t442.length) (c := co29) ?_).2.2; exact (Kd.R_mono (rf (Kd.R_types HO_446001.out BK476.out (by decide))) (fun _ h_ => h_.1))); (case side4 => exact (Kd.R_reads' HO_446001.out).2.1); rintro e w128 ⟨rfl, hb⟩; refine ⟨_, rfl, ?_⟩; have n0 := ra (Kd.R_below (Kd.R_mono (rf (Kd.R_types HO_446001.out BK476.out (by decide))) (fun _ h_ => h_.1)) hb); have n1 := ra (Kd.R_below (Kd.R_mono (rf (Kd.R_types HO_451001.out BK476.out (by decide))) (fun _ h_ => h_.1)) hb); have n2 := ra (Kd.R_below (Kd.R_mono (rf (Kd.R_types HO_456001.out BK476.out (by decide))) (fun _ h_ => h_.1)) hb); have n3 := ra (Kd.R_below (Kd.R_mono (rf (Kd.R_types HO471.out BK476.out (by decide))) (fun _ h_ => h_.1)) hb); have n4 := ra (Kd.R_below (Kd.R_mono (rf (Kd.R_types HO475.out BK476.out (by decide))) (fun _ h_ => h_.1)) hb); have n5 := bb (bk BK435) hb; have n6 := bb (bk BK445) hb; have n7 := bb (bk BK450) hb; have n8_ := bb (bk BK455) hb; have n9_ := bb (o := .cells #[.string t472, .slice Ao125 t473.length co125] 39 (0, 0)) (bp BK476) hb; have n10_ := bs hb; clear HO_446001 HO_451001 HO_456001 HO471 HO475 BK435 BK445 BK450 BK455 BK476 HB; have HO_446001 := n0; have HO_451001 := n1; have HO_456001 := n2; have HO471 := n3; have HO475 := n4; have BK435 := n5; have BK445 := n6; have BK450 := n7; have BK455 := n8_; have BK476 := n9_; have HB := n10_; clear n0 n1 n2 n3 n4 n5 n6 n7 n8_ n9_ n10_; (try clear hb); (try clear hb2); (try clear hk); (try clear hi); obtain ⟨hcz129_0, hcz129_1, hfz129_0, hfz129_1⟩ := zc2 BK455) | ((with_reducible refine gate_callee (f := 38) rfl ?_); refine goesL_ (some 68) rfl rfl Try.func38 (by kernel_rfl) rfl #[.agg #[.string t451, .slice Ao43 t466.length co43], .int .i64 1] rfl (by (try simp only [List.map_toArray, List.map_cons, List.map_nil]); first | done | (rw [show t466.length = t452.length from (Kd.R_reads' HO_456001.out).1.symm] <;> rfl) | rfl | (simp only [List.length_drop, List.length_take]; rfl)) ?_; (with_reducible refine (laws_heldProbeTube.calls kj17 t451 _ _ t466 1 t478 _ ?side1 ?side2 A78.out).mono ?_); (case side1 => exact sr HO_456001); (case side2 => rw [show t466.length = t452.length from (Kd.R_reads' HO_456001.out).1.symm]; exact (Kd.R_reads' HO_456001.out).2.1); rintro e w130 ⟨rfl, hb⟩; refine ⟨_, rfl, ?_⟩; have n0 := ra (Kd.R_below (rq HO_446001) hb); have n1 := ra (Kd.R_below (rq HO_451001) hb); have n2 := ra (Kd.R_below (rq HO_456001) hb); have n3 := ra (Kd.R_below (rq HO471) hb); have n4 := ra (Kd.R_below (rq HO475) hb); have n5 := bb (bk BK435) hb; have n6 := bb (bk BK445) hb; have n7 := bb (bk BK450) hb; have n8_ := bb (bk BK455) hb; have n9_ := bb (bk BK476) hb; have n10_ := bs hb; clear HO_446001 HO_451001 HO_456001 HO471 HO475 BK435 BK445 BK450 BK455 BK476 HB; have HO_446001 := n0; have HO_451001 := n1; have HO_456001 := n2; have HO471 := n3; have HO475 := n4; have BK435 := n5; have BK445 := n6; have BK450 := n7; have BK455 := n8_; have BK476 := n9_; have HB := n10_; clear n0 n1 n2 n3 n4 n5 n6 n7 n8_ n9_ n10_; (try clear hb); (try clear hb2); (try clear hk); (try clear hi)))
                        go_ret
                        exact ⟨re, bq⟩
                      · rw [if_neg c105] at H
                        exact absurd (Option.some.inj H) (by decide)
                  · replace c77 := Bool.eq_false_iff.mpr c77
                    subst c77
                    have H1 : (some false) = some true := by rw [if_neg (show ¬ (false = true) by decide)] at H; exact H
                    clear H
                    have H := H1
                    exact absurd (Option.some.inj H) (by decide)
                · rw [if_neg c73] at H
                  exact absurd (Option.some.inj H) (by decide)
      · replace c16 := Bool.eq_false_iff.mpr c16
        subst c16
        have H1 : (some false) = some true := by rw [if_neg (show ¬ (false = true) by decide)] at H; exact H
        clear H
        have H := H1
        exact absurd (Option.some.inj H) (by decide)
    · replace c13 := Bool.eq_false_iff.mpr c13
      subst c13
      have H1 : (some false) = some true := by rw [if_neg (show ¬ (false = true) by decide)] at H; exact H
      clear H
      have H := H1
      exact absurd (Option.some.inj H) (by decide)
end Go.Proofs.Ytfoapgcnjnogiaa.PA
