/- Contracts of the functions laws_FnExactProbeFree. (Began as a print of the kit's tool.) -/
import Derived.Test.YtfoapgcnjnogiaaPAd
import Derived.Test.YtfoapgcnjnogiaaCx
import Derived.Test.YtfoapgcnjnogiaaCy
import Derived.Test.YtfoapgcnjnogiaaGConvs
import Derived.Test.YtfoapgcnjnogiaaGConv
import Derived.Test.YtfoapgcnjnogiaaGConvs
import Derived.Test.YtfoapgcnjnogiaaGConv
import Derived.Test.YtfoapgcnjnogiaaGFree
import Derived.Test.YtfoapgcnjnogiaaGFree
import Derived.Test.YtfoapgcnjnogiaaGConvs
import Derived.Test.YtfoapgcnjnogiaaGConv
namespace Go.Proofs.Ytfoapgcnjnogiaa.PA
open Go.RowKit Go.Proofs.YtfoapgcnjnogiaaW.PrintWords Go.Proofs.YtfoapgcnjnogiaaW.PrintLast Go.Proofs.YtfoapgcnjnogiaaW.PrintMore Go.Proofs.Ytfoapgcnjnogiaa.Z
attribute [local go_sem] max2_int min2_int max_two min_two max_three min_three max_four min_four
set_option linter.unusedVariables false
set_option linter.unusedSimpArgs false
set_option maxHeartbeats 8000000 in
set_option maxRecDepth 100000 in
theorem laws_FnExactProbeFree.calls (k : Nat) (A0 : Option Addr) (c0 : Nat) (l0 : List (S34)) (a1_0 : ByteArray) (A1_1 : Option Addr) (c1_1 : Nat) (l1_1 : List (S24)) (w : World) (hr0 : Kd.C k34 w A0 l0.length l0) (hc0 : l0.length ≤ c0) (hr1_1 : Kd.C k24 w A1_1 l1_1.length l1_1) (hc1_1 : l1_1.length ≤ c1_1) (h : laws_FnExactProbeFree.f k l0 a1_0 l1_1 = some true) :
    Calls Try.prog 11 #[.slice A0 l0.length c0, .agg #[.string a1_0, .slice A1_1 l1_1.length c1_1]] w fun e w' => e = .returned (.bool true) ∧ Below w.heap.size w w' := by
  have hu34 := Try.underlying34
  have hu39 := Try.underlying39
  have HR0 := Aside0.mk hr0
  have HC0 := Aside0.mk hc0
  clear hr0 hc0
  have HR1_1 := Aside0.mk hr1_1
  have HC1_1 := Aside0.mk hc1_1
  clear hr1_1 hc1_1
  have HB := ra (Below.refl w.heap.size w)
  have H : ((laws_szProbeTubeS.f k l0 1048576).bind fun t526 => (if t526 < 0 then (some true) else ((laws_szProbeTube.f a1_0 l1_1 t526).bind fun t527 => (if t527 < 0 then (some true) else ((laws_toProbeTubeS.f k l0).bind fun t528 => ((laws_toProbeTube.f k a1_0 l1_1).bind fun bt531 => ((spec_ProbeFree.f k t528 bt531.1 bt531.2).bind fun t535 => ((laws_toProbeTubeS.f k l0).bind fun t536 => ((laws_toProbeTube.f k a1_0 l1_1).bind fun bt539 => ((impl_ProbeFree.f k t536 bt539.1 bt539.2).bind fun t544 => (if (t544 != t535) = true then (some false) else ((laws_toProbeTubeS.f k l0).bind fun t545 => ((laws_eqProbeTubeS.f k t536 t545).bind fun t548 => (if t548 = true then ((laws_toProbeTube.f k a1_0 l1_1).bind fun bt549 => ((laws_eqProbeTube.f k bt539.1 bt539.2 bt549.1 bt549.2).bind fun t553 => (if t553 = true then (some true) else (some false)))) else (some false))))))))))))))) = some true := h
  clear h
  obtain ⟨t526, A3, H⟩ := bo H
  by_cases c4 : t526 < 0
  · rw [if_pos c4] at H
    have c4b0 : decide (t526 < 0) = true := decide_eq_true c4
    clear c4 H
    go_enter Try.func11, Try.ntmps11
    go_wp2_with (first | ((with_reducible refine gate_dst (N := 3) rfl ?_); refine be 3 #[.string a1_0, .slice A1_1 l1_1.length c1_1] 34 ?_; intro gb525 hg w5 hbox hb; have n0 := bs hb; have n1 := ra (hbox); have n2 := bz (w0 := w) hg; have n3 := bz (w0 := w) hg; clear HB; have HB := n0; have BK525 := n1; have GW525 := n2; have GE525 := n3; clear n0 n1 n2 n3; clear hb hbox hg) | ((with_reducible refine gate_callee (f := 27) rfl ?_); refine gl (some 12) Try.func27 #[.slice A0 l0.length c0, .int .i64 1048576] ?_; (with_reducible refine (laws_szProbeTubeS.calls k _ _ l0 1048576 t526 _ ?side1 ?side2 A3.out).mono ?_); (case side1 => exact sc HR0); (case side2 => exact HC0.out); rintro e w6 ⟨rfl, hb⟩; refine ⟨_, rfl, ?_⟩; have n0 := bb (bk BK525) hb; have n1 := bs hb; clear BK525 HB; have BK525 := n0; have HB := n1; clear n0 n1; (try clear hb); (try clear hb2); (try clear hk); (try clear hi)))
    go_ret
    exact ⟨re, bq⟩
  · rw [if_neg c4] at H
    have c4b0 : decide (t526 < 0) = false := decide_eq_false c4
    clear c4
    obtain ⟨t527, A7, H⟩ := bo H
    by_cases c8 : t527 < 0
    · rw [if_pos c8] at H
      have c8b0 : decide (t527 < 0) = true := decide_eq_true c8
      clear c8 H
      go_enter Try.func11, Try.ntmps11
      go_wp2_with (first | ((with_reducible refine gate_dst (N := 3) rfl ?_); refine be 3 #[.string a1_0, .slice A1_1 l1_1.length c1_1] 34 ?_; intro gb525 hg w9 hbox hb; have n0 := bs hb; have n1 := ra (hbox); have n2 := bz (w0 := w) hg; have n3 := bz (w0 := w) hg; clear HB; have HB := n0; have BK525 := n1; have GW525 := n2; have GE525 := n3; clear n0 n1 n2 n3; clear hb hbox hg) | ((with_reducible refine gate_callee (f := 27) rfl ?_); refine gl (some 12) Try.func27 #[.slice A0 l0.length c0, .int .i64 1048576] ?_; (with_reducible refine (laws_szProbeTubeS.calls k _ _ l0 1048576 t526 _ ?side1 ?side2 A3.out).mono ?_); (case side1 => exact sc HR0); (case side2 => exact HC0.out); rintro e w10 ⟨rfl, hb⟩; refine ⟨_, rfl, ?_⟩; have n0 := bb (bk BK525) hb; have n1 := bs hb; clear BK525 HB; have BK525 := n0; have HB := n1; clear n0 n1; (try clear hb); (try clear hb2); (try clear hk); (try clear hi); obtain ⟨hcz11_0, hcz11_1, hfz11_0, hfz11_1⟩ := zc2 BK525) | ((with_reducible refine gate_callee (f := 20) rfl ?_); refine gl (some 17) Try.func20 #[.agg #[.string a1_0, .slice A1_1 l1_1.length c1_1], .int .i64 t526] ?_; (with_reducible refine (laws_szProbeTube.calls a1_0 _ _ l1_1 t526 t527 _ ?side1 ?side2 A7.out).mono ?_); (case side1 => exact sc HR1_1); (case side2 => exact HC1_1.out); rintro e w12 ⟨rfl, hb⟩; refine ⟨_, rfl, ?_⟩; have n0 := bb (bk BK525) hb; have n1 := bs hb; clear BK525 HB; have BK525 := n0; have HB := n1; clear n0 n1; (try clear hb); (try clear hb2); (try clear hk); (try clear hi)))
      go_ret
      exact ⟨re, bq⟩
    · rw [if_neg c8] at H
      have c8b0 : decide (t527 < 0) = false := decide_eq_false c8
      clear c8
      obtain ⟨t528, A13, H⟩ := bo H
      obtain ⟨⟨t531, t532⟩, A14, H⟩ := bo H
      try dsimp only at H
      obtain ⟨t535, A15, H⟩ := bo H
      obtain ⟨t536, A16, H⟩ := bo H
      obtain ⟨⟨t539, t540⟩, A17, H⟩ := bo H
      try dsimp only at H
      obtain ⟨t544, A18, H⟩ := bo H
      by_cases c19 : (t544 != t535) = true
      · rw [if_pos c19] at H
        exact absurd (Option.some.inj H) (by decide)
      · rw [if_neg c19] at H
        have c19b0 : (t544 != t535) = false := by simpa using c19
        (try (have c19b1 : decide (t544 = t535) = true := by simpa using c19))
        (try (have c19b2 : (t544 == t535) = true := by simpa using c19))
        clear c19
        obtain ⟨t545, A39, H⟩ := bo H
        obtain ⟨t548, A40, H⟩ := bo H
        by_cases c41 : t548 = true
        · subst c41
          replace H := it H rfl
          obtain ⟨⟨t549, t550⟩, A42, H⟩ := bo H
          try dsimp only at H
          obtain ⟨t553, A43, H⟩ := bo H
          by_cases c44 : t553 = true
          · subst c44
            have H1 : (some true) = some true := rfl
            clear H
            have H := H1
            clear H1 H
            go_enter Try.func11, Try.ntmps11
            try go_wp2_with (first | ((with_reducible refine gate_dst (N := 3) rfl ?_); refine be 3 #[.string a1_0, .slice A1_1 l1_1.length c1_1] 34 ?_; intro gb525 hg w45 hbox hb; have n0 := bs hb; have n1 := ra (hbox); have n2 := bz (w0 := w) hg; have n3 := bz (w0 := w) hg; clear HB; have HB := n0; have BK525 := n1; have GW525 := n2; have GE525 := n3; clear n0 n1 n2 n3; clear hb hbox hg) | ((with_reducible refine gate_callee (f := 27) rfl ?_); refine gl (some 12) Try.func27 #[.slice A0 l0.length c0, .int .i64 1048576] ?_; (with_reducible refine (laws_szProbeTubeS.calls k _ _ l0 1048576 t526 _ ?side1 ?side2 A3.out).mono ?_); (case side1 => exact sc HR0); (case side2 => exact HC0.out); rintro e w46 ⟨rfl, hb⟩; refine ⟨_, rfl, ?_⟩; have n0 := bb (bk BK525) hb; have n1 := bs hb; clear BK525 HB; have BK525 := n0; have HB := n1; clear n0 n1; (try clear hb); (try clear hb2); (try clear hk); (try clear hi); obtain ⟨hcz47_0, hcz47_1, hfz47_0, hfz47_1⟩ := zc2 BK525) | ((with_reducible refine gate_callee (f := 20) rfl ?_); refine gl (some 17) Try.func20 #[.agg #[.string a1_0, .slice A1_1 l1_1.length c1_1], .int .i64 t526] ?_; (with_reducible refine (laws_szProbeTube.calls a1_0 _ _ l1_1 t526 t527 _ ?side1 ?side2 A7.out).mono ?_); (case side1 => exact sc HR1_1); (case side2 => exact HC1_1.out); rintro e w48 ⟨rfl, hb⟩; refine ⟨_, rfl, ?_⟩; have n0 := bb (bk BK525) hb; have n1 := bs hb; clear BK525 HB; have BK525 := n0; have HB := n1; clear n0 n1; (try clear hb); (try clear hb2); (try clear hk); (try clear hi)))
            have n0 := ra (blk_drew BK525.out)
            have n1 := ra (below_drew1 HB.out)
            clear BK525 HB
            have BK525 := n0
            have HB := n1
            clear n0 n1
            refine start_ (n := 6) (S := fun w' => w'.cell? ⟨gb525, 0, none⟩ = some (.string a1_0) ∧ w'.cell? ⟨gb525, 1, none⟩ = some (.slice A1_1 l1_1.length c1_1)) (ds := []) (bl 6 0) (by kernel_rfl) rfl rfl ⟨(blk_cell BK525.out 0).trans rfl, (blk_cell BK525.out 1).trans rfl⟩ (fun hHeld => ?_)
            generalize w48.drew = w49 at BK525 HB hHeld ⊢
            refine pu 0 20 (bl 6 1) ?_
            refine tk 2 22 (bl 6 5) ?_ hHeld
            refine oe 1 21 (bl 6 7) (fun K hK => ?_)
            refine gs Try.func29 #[.slice A0 l0.length c0] ?_
            with_reducible refine (laws_toProbeTubeS.calls k _ _ l0 t528 _ ?side1 ?side2 A13.out).mono ?_
            (case side1 => exact sc HR0)
            (case side2 => exact HC0.out)
            rintro e w50 ⟨v529, rfl, ho0, hb⟩
            refine ⟨_, rfl, ?_⟩
            have n0 := ra (Kd.S_lower ho0 (below_size bq))
            have n1 := bb (bk BK525) hb
            have n2 := bs hb
            clear BK525 HB
            have HO530 := n0
            have BK525 := n1
            have HB := n2
            clear n0 n1 n2
            (try clear hb)
            (try clear hb2)
            (try clear hk)
            (try clear hi)
            (try clear ho0)
            refine hK.out _ _ ⟨(blk_cell BK525.out 0).trans rfl, (blk_cell BK525.out 1).trans rfl⟩ (fun hHeld => ?_)
            clear hK K
            refine nm 21 ?_
            refine oe 3 23 (bl 6 15) (fun K hK => ?_)
            refine gs Try.func22 #[.agg #[.string a1_0, .slice A1_1 l1_1.length c1_1]] ?_
            with_reducible refine (laws_toProbeTube.calls k a1_0 _ _ l1_1 t531 t532 _ ?side1 ?side2 A14.out).mono ?_
            (case side1 => exact sc HR1_1)
            (case side2 => exact HC1_1.out)
            rintro e w51 ⟨v533, rfl, ho0, hb⟩
            refine ⟨_, rfl, ?_⟩
            have n0 := ra (Kd.S_elder' (by (with_reducible repeat (first | apply Kd.S_alloc | apply Kd.S_drewN | apply Kd.S_drew)); exact HO530.out) (Kd.R_base ho0) hb)
            have n1 := ra (Kd.R_lower ho0 (below_size bq))
            have n2 := bb (bk BK525) hb
            have n3 := bs hb
            clear HO530 BK525 HB
            have HO530 := n0
            have HO534 := n1
            have BK525 := n2
            have HB := n3
            clear n0 n1 n2 n3
            (try clear hb)
            (try clear hb2)
            (try clear hk)
            (try clear hi)
            (try clear ho0)
            obtain ⟨Ao52, co52, eo52⟩ := Kd.S_slice HO530.out
            (first | subst eo52 | (injection eo52 with f1_ f2_ f3_; have f4_ := f1_.symm; have f5_ := f3_.symm; clear f1_ f2_ f3_; subst f4_; subst f5_))
            obtain ⟨Ao53, co53, eo53⟩ := Kd.R_slice HO534.out
            (first | subst eo53 | (injection eo53 with f1_ f2_ f3_; have f4_ := f1_.symm; have f5_ := f3_.symm; clear f1_ f2_ f3_; subst f4_; subst f5_))
            refine hK.out _ _ ⟨(blk_cell BK525.out 0).trans rfl, (blk_cell BK525.out 1).trans rfl⟩ (fun hHeld => ?_)
            clear hK K
            refine nm 23 ?_
            refine oe 4 24 (bl 6 31) (fun K hK => ?_)
            refine gs Try.func39 #[.slice Ao52 t528.length co52, .agg #[.string t531, .slice Ao53 t532.length co53]] ?_
            with_reducible refine (spec_ProbeFree.calls k _ _ t528 t531 _ _ t532 t535 _ ?side1 ?side2 ?side3 ?side4 A15.out).mono ?_
            (case side1 => repeat (first | exact (Kd.S_reads' HO530.out).2.2 | (with_reducible refine Kd.C_alloc ?_ _) | (with_reducible refine Kd.C_drewN ?_ _) | (with_reducible refine Kd.C_drew ?_)))
            (case side2 => exact (Kd.S_reads' HO530.out).2.1)
            (case side3 => exact sr HO534)
            (case side4 => exact (Kd.R_reads' HO534.out).2.1)
            rintro e w54 ⟨rfl, hb⟩
            refine ⟨_, rfl, ?_⟩
            have n0 := ra (Kd.S_below (by (with_reducible repeat (first | apply Kd.S_alloc | apply Kd.S_drewN | apply Kd.S_drew)); exact HO530.out) hb)
            have n1 := ra (Kd.R_below (rq HO534) hb)
            have n2 := bb (bk BK525) hb
            have n3 := bs hb
            clear HO530 HO534 BK525 HB
            have HO530 := n0
            have HO534 := n1
            have BK525 := n2
            have HB := n3
            clear n0 n1 n2 n3
            (try clear hb)
            (try clear hb2)
            (try clear hk)
            (try clear hi)
            refine hK.out _ _ ⟨(blk_cell BK525.out 0).trans rfl, (blk_cell BK525.out 1).trans rfl⟩ (fun hHeld => ?_)
            clear hK K
            refine nm 24 ?_
            refine pu 5 6 (bl 6 63) ?_
            refine done_ (by kernel_rfl) ?_
            try go_wp2_with (first | ((with_reducible refine gate_callee (f := 29) rfl ?_); refine gl (some 26) Try.func29 #[.slice A0 l0.length c0] ?_; (with_reducible refine (laws_toProbeTubeS.calls k _ _ l0 t536 _ ?side1 ?side2 A16.out).mono ?_); (case side1 => exact sc HR0); (case side2 => exact HC0.out); rintro e w55 ⟨v537, rfl, ho0, hb⟩; refine ⟨_, rfl, ?_⟩; have n0 := ra (Kd.S_elder' (by (with_reducible repeat (first | apply Kd.S_alloc | apply Kd.S_drewN | apply Kd.S_drew)); exact HO530.out) (Kd.S_base ho0) hb); have n1 := ra (Kd.R_below (rq HO534) hb); have n2 := ra (Kd.S_lower (Kd.S_new' (Kd.S_new' ho0 (Kd.S_lt (by (with_reducible repeat (first | apply Kd.S_alloc | apply Kd.S_drewN | apply Kd.S_drew)); exact HO530.out))) (Kd.R_lt (rq HO534))) (below_size bq)); have n3 := bb (bk BK525) hb; have n4 := bs hb; clear HO530 HO534 BK525 HB; have HO530 := n0; have HO534 := n1; have HO538 := n2; have BK525 := n3; have HB := n4; clear n0 n1 n2 n3 n4; (try clear hb); (try clear hb2); (try clear hk); (try clear hi); (try clear ho0); obtain ⟨hcz56_0, hcz56_1, hfz56_0, hfz56_1⟩ := zc2 BK525) | ((with_reducible refine gate_callee (f := 22) rfl ?_); refine gl (some 28) Try.func22 #[.agg #[.string a1_0, .slice A1_1 l1_1.length c1_1]] ?_; (with_reducible refine (laws_toProbeTube.calls k a1_0 _ _ l1_1 t539 t540 _ ?side1 ?side2 A17.out).mono ?_); (case side1 => exact sc HR1_1); (case side2 => exact HC1_1.out); rintro e w57 ⟨v541, rfl, ho0, hb⟩; refine ⟨_, rfl, ?_⟩; have n0 := ra (Kd.S_elder' (by (with_reducible repeat (first | apply Kd.S_alloc | apply Kd.S_drewN | apply Kd.S_drew)); exact HO530.out) (Kd.R_base ho0) hb); have n1 := ra (Kd.R_elder' (rq HO534) (Kd.R_base ho0) hb); have n2 := ra (Kd.S_elder' (by (with_reducible repeat (first | apply Kd.S_alloc | apply Kd.S_drewN | apply Kd.S_drew)); exact HO538.out) (Kd.R_base ho0) hb); have n3 := ra (Kd.R_lower (Kd.R_new' ho0 (Kd.R_lt (rq HO534))) (below_size bq)); have n4 := bb (bk BK525) hb; have n5 := bs hb; clear HO530 HO534 HO538 BK525 HB; have HO530 := n0; have HO534 := n1; have HO538 := n2; have HO542 := n3; have BK525 := n4; have HB := n5; clear n0 n1 n2 n3 n4 n5; (try clear hb); (try clear hb2); (try clear hk); (try clear hi); (try clear ho0)) | ((with_reducible refine gate_dst (N := 8) rfl ?_); refine be 8 #[.string (⟨#[]⟩ : ByteArray), .slice none 0 0] 39 ?_; intro gb543 hg w58 hbox hb; have n0 := ra (Kd.S_below (Kd.S_elderB (by (with_reducible repeat (first | apply Kd.S_alloc | apply Kd.S_drewN | apply Kd.S_drew)); exact HO530.out) gb543 (Nat.le_of_eq hg.symm)) hb); have n1 := ra (Kd.R_below (rq HO534) hb); have n2 := ra (Kd.S_below (Kd.S_elderB (by (with_reducible repeat (first | apply Kd.S_alloc | apply Kd.S_drewN | apply Kd.S_drew)); exact HO538.out) gb543 (Nat.le_of_eq hg.symm)) hb); have n3 := ra (Kd.R_below (rq HO542) hb); have n4 := bb (bk BK525) hb; have n5 := bs hb; have n6 := ra (hbox); have n7 := bz (w0 := w) hg; have n8_ := bz (w0 := w) hg; have n9_ := bn hg (bk BK525); have n10_ := bm hg (bk BK525); clear HO530 HO534 HO538 HO542 BK525 HB; have HO530 := n0; have HO534 := n1; have HO538 := n2; have HO542 := n3; have BK525 := n4; have HB := n5; have BK543 := n6; have GW543 := n7; have GE543 := n8_; have NB525_543 := n9_; have NB543_525 := n10_; clear n0 n1 n2 n3 n4 n5 n6 n7 n8_ n9_ n10_; clear hb hbox hg; have hnb59 := NB543_525.out; have hnc59 := NB525_543.out; obtain ⟨hcz60_0, hcz60_1, hfz60_0, hfz60_1⟩ := zc2 BK543; obtain ⟨Ao61, co61, eo61⟩ := Kd.R_slice HO542.out; subst eo61; obtain ⟨Ao62, co62, eo62⟩ := Kd.S_slice HO538.out; subst eo62) | ((with_reducible refine gate_callee (f := 40) rfl ?_); refine gl (some 31) Try.func40 #[.slice Ao62 t536.length co62, .agg #[.string t539, .slice Ao61 t540.length co61]] ?_; (with_reducible refine (impl_ProbeFree.calls k _ _ t536 t539 _ _ t540 t544 _ ?side1 ?side2 ?side3 ?side4 A18.out).mono ?_); (case side1 => refine (Kd.S_reads' (e := 39) (base := w.heap.size) (ok := fun k_ => ((((True ∧ some k_ ≠ (.slice Ao52 t528.length co52 : Value).ownBlock) ∧ some k_ ≠ (.slice Ao53 t532.length co53 : Value).ownBlock) ∧ some k_ ≠ (.slice Ao61 t540.length co61 : Value).ownBlock) ∧ k_ ≠ gb543)) (n := t536.length) (c := co62) ?_).2.2; exact (by (with_reducible repeat (first | apply Kd.S_alloc | apply Kd.S_drewN | apply Kd.S_drew)); exact (Kd.S_mono (Kd.S_far (p := ⟨gb543, 1, none⟩) (Kd.S_far (p := ⟨gb543, 0, none⟩) (Kd.S_mono HO538.out (fun k_ hk => (⟨hk, hk.2⟩ : _ ∧ k_ ≠ gb543))) (fun _ hk => hk.2) (.string t539)) (fun _ hk => hk.2) (.slice Ao61 t540.length co61)) (fun _ h_ => h_.1)))); (case side2 => exact (Kd.S_reads' HO538.out).2.1); (case side3 => refine (Kd.R_reads' (e := 26) (base := w.heap.size) (ok := fun k_ => (True ∧ some k_ ≠ (.slice Ao53 t532.length co53 : Value).ownBlock)) (n := t540.length) (c := co61) ?_).2.2; exact (Kd.R_mono (rf (Kd.R_types HO542.out BK543.out (by decide))) (fun _ h_ => h_.1))); (case side4 => exact (Kd.R_reads' HO542.out).2.1); rintro e w63 ⟨rfl, hb⟩; refine ⟨_, rfl, ?_⟩; have n0 := ra (Kd.S_below (by (with_reducible repeat (first | apply Kd.S_alloc | apply Kd.S_drewN | apply Kd.S_drew)); exact (Kd.S_mono (Kd.S_far (p := ⟨gb543, 1, none⟩) (Kd.S_far (p := ⟨gb543, 0, none⟩) (Kd.S_mono HO530.out (fun k_ hk => (⟨hk, hk.2⟩ : _ ∧ k_ ≠ gb543))) (fun _ hk => hk.2) (.string t539)) (fun _ hk => hk.2) (.slice Ao61 t540.length co61)) (fun _ h_ => h_.1))) hb); have n1 := ra (Kd.R_below (Kd.R_mono (rf (Kd.R_types HO534.out BK543.out (by decide))) (fun _ h_ => h_.1)) hb); have n2 := ra (Kd.S_below (by (with_reducible repeat (first | apply Kd.S_alloc | apply Kd.S_drewN | apply Kd.S_drew)); exact (Kd.S_mono (Kd.S_far (p := ⟨gb543, 1, none⟩) (Kd.S_far (p := ⟨gb543, 0, none⟩) (Kd.S_mono HO538.out (fun k_ hk => (⟨hk, hk.2⟩ : _ ∧ k_ ≠ gb543))) (fun _ hk => hk.2) (.string t539)) (fun _ hk => hk.2) (.slice Ao61 t540.length co61)) (fun _ h_ => h_.1))) hb); have n3 := ra (Kd.R_below (Kd.R_mono (rf (Kd.R_types HO542.out BK543.out (by decide))) (fun _ h_ => h_.1)) hb); have n4 := bb (bk BK525) hb; have n5 := bb (o := .cells #[.string t539, .slice Ao61 t540.length co61] 39 (0, 0)) (bp BK543) hb; have n6 := bs hb; clear HO530 HO534 HO538 HO542 BK525 BK543 HB; have HO530 := n0; have HO534 := n1; have HO538 := n2; have HO542 := n3; have BK525 := n4; have BK543 := n5; have HB := n6; clear n0 n1 n2 n3 n4 n5 n6; (try clear hb); (try clear hb2); (try clear hk); (try clear hi)) | ((with_reducible refine gate_callee (f := 29) rfl ?_); refine gl (some 37) Try.func29 #[.slice A0 l0.length c0] ?_; (with_reducible refine (laws_toProbeTubeS.calls k _ _ l0 t545 _ ?side1 ?side2 A39.out).mono ?_); (case side1 => exact sc HR0); (case side2 => exact HC0.out); rintro e w64 ⟨v546, rfl, ho0, hb⟩; refine ⟨_, rfl, ?_⟩; have n0 := ra (Kd.S_elder' (by (with_reducible repeat (first | apply Kd.S_alloc | apply Kd.S_drewN | apply Kd.S_drew)); exact HO530.out) (Kd.S_base ho0) hb); have n1 := ra (Kd.R_below (rq HO534) hb); have n2 := ra (Kd.S_elder' (by (with_reducible repeat (first | apply Kd.S_alloc | apply Kd.S_drewN | apply Kd.S_drew)); exact HO538.out) (Kd.S_base ho0) hb); have n3 := ra (Kd.R_below (rq HO542) hb); have n4 := ra (Kd.S_lower (Kd.S_newB (Kd.S_new' (Kd.S_new' (Kd.S_new' (Kd.S_new' ho0 (Kd.S_lt (by (with_reducible repeat (first | apply Kd.S_alloc | apply Kd.S_drewN | apply Kd.S_drew)); exact HO530.out))) (Kd.R_lt (rq HO534))) (Kd.S_lt (by (with_reducible repeat (first | apply Kd.S_alloc | apply Kd.S_drewN | apply Kd.S_drew)); exact HO538.out))) (Kd.R_lt (rq HO542))) (g := gb543) (o := .cells #[.string t539, .slice Ao61 t540.length co61] 39 (0, 0)) (bk BK543)) (below_size bq)); have n5 := bb (bk BK525) hb; have n6 := bb (bk BK543) hb; have n7 := bs hb; clear HO530 HO534 HO538 HO542 BK525 BK543 HB; have HO530 := n0; have HO534 := n1; have HO538 := n2; have HO542 := n3; have HO547 := n4; have BK525 := n5; have BK543 := n6; have HB := n7; clear n0 n1 n2 n3 n4 n5 n6 n7; (try clear hb); (try clear hb2); (try clear hk); (try clear hi); (try clear ho0); obtain ⟨Ao65, co65, eo65⟩ := Kd.S_slice HO547.out; subst eo65) | ((with_reducible refine gate_callee (f := 31) rfl ?_); refine gl (some 38) Try.func31 #[.slice Ao62 t536.length co62, .slice Ao65 t545.length co65] ?_; (with_reducible refine (laws_eqProbeTubeS.calls k _ _ t536 _ _ t545 true _ ?side1 ?side2 ?side3 ?side4 A40.out).mono ?_); (case side1 => repeat (first | exact (Kd.S_reads' HO538.out).2.2 | (with_reducible refine Kd.C_alloc ?_ _) | (with_reducible refine Kd.C_drewN ?_ _) | (with_reducible refine Kd.C_drew ?_))); (case side2 => exact (Kd.S_reads' HO538.out).2.1); (case side3 => repeat (first | exact (Kd.S_reads' HO547.out).2.2 | (with_reducible refine Kd.C_alloc ?_ _) | (with_reducible refine Kd.C_drewN ?_ _) | (with_reducible refine Kd.C_drew ?_))); (case side4 => exact (Kd.S_reads' HO547.out).2.1); rintro e w66 ⟨rfl, hb⟩; refine ⟨_, rfl, ?_⟩; have n0 := ra (Kd.S_below (by (with_reducible repeat (first | apply Kd.S_alloc | apply Kd.S_drewN | apply Kd.S_drew)); exact HO530.out) hb); have n1 := ra (Kd.R_below (rq HO534) hb); have n2 := ra (Kd.S_below (by (with_reducible repeat (first | apply Kd.S_alloc | apply Kd.S_drewN | apply Kd.S_drew)); exact HO538.out) hb); have n3 := ra (Kd.R_below (rq HO542) hb); have n4 := ra (Kd.S_below (by (with_reducible repeat (first | apply Kd.S_alloc | apply Kd.S_drewN | apply Kd.S_drew)); exact HO547.out) hb); have n5 := bb (bk BK525) hb; have n6 := bb (bk BK543) hb; have n7 := bs hb; clear HO530 HO534 HO538 HO542 HO547 BK525 BK543 HB; have HO530 := n0; have HO534 := n1; have HO538 := n2; have HO542 := n3; have HO547 := n4; have BK525 := n5; have BK543 := n6; have HB := n7; clear n0 n1 n2 n3 n4 n5 n6 n7; (try clear hb); (try clear hb2); (try clear hk); (try clear hi)))
            have n0 := ra (Kd.S_drew HO530.out)
            have n1 := ra (Kd.R_drew HO534.out)
            have n2 := ra (Kd.S_drew HO538.out)
            have n3 := ra (Kd.R_drew HO542.out)
            have n4 := ra (Kd.S_drew HO547.out)
            have n5 := ra (blk_drew BK525.out)
            have n6 := ra (blk_drew BK543.out)
            have n7 := ra (below_drew1 HB.out)
            clear HO530 HO534 HO538 HO542 HO547 BK525 BK543 HB
            have HO530 := n0
            have HO534 := n1
            have HO538 := n2
            have HO542 := n3
            have HO547 := n4
            have BK525 := n5
            have BK543 := n6
            have HB := n7
            clear n0 n1 n2 n3 n4 n5 n6 n7
            refine start_ (n := 5) (S := fun w' => w'.cell? ⟨gb543, 0, none⟩ = some (.string t539) ∧ w'.cell? ⟨gb543, 1, none⟩ = some (.slice Ao61 t540.length co61) ∧ w'.cell? ⟨gb525, 0, none⟩ = some (.string a1_0) ∧ w'.cell? ⟨gb525, 1, none⟩ = some (.slice A1_1 l1_1.length c1_1)) (ds := []) (bl 5 0) (by kernel_rfl) rfl rfl ⟨(blk_cell BK543.out 0).trans rfl, (blk_cell BK543.out 1).trans rfl, (blk_cell BK525.out 0).trans rfl, (blk_cell BK525.out 1).trans rfl⟩ (fun hHeld => ?_)
            generalize w66.drew = w67 at HO530 HO534 HO538 HO542 HO547 BK525 BK543 HB hHeld ⊢
            refine tk 0 40 (bl 5 1) ?_ hHeld
            refine tk 1 41 (bl 5 3) ?_ hHeld
            refine oe 2 42 (bl 5 7) (fun K hK => ?_)
            refine gs Try.func22 #[.agg #[.string a1_0, .slice A1_1 l1_1.length c1_1]] ?_
            with_reducible refine (laws_toProbeTube.calls k a1_0 _ _ l1_1 t549 t550 _ ?side1 ?side2 A42.out).mono ?_
            (case side1 => exact sc HR1_1)
            (case side2 => exact HC1_1.out)
            rintro e w68 ⟨v551, rfl, ho0, hb⟩
            refine ⟨_, rfl, ?_⟩
            have n0 := ra (Kd.S_elder' (by (with_reducible repeat (first | apply Kd.S_alloc | apply Kd.S_drewN | apply Kd.S_drew)); exact HO530.out) (Kd.R_base ho0) hb)
            have n1 := ra (Kd.R_elder' (rq HO534) (Kd.R_base ho0) hb)
            have n2 := ra (Kd.S_elder' (by (with_reducible repeat (first | apply Kd.S_alloc | apply Kd.S_drewN | apply Kd.S_drew)); exact HO538.out) (Kd.R_base ho0) hb)
            have n3 := ra (Kd.R_elder' (rq HO542) (Kd.R_base ho0) hb)
            have n4 := ra (Kd.S_elder' (by (with_reducible repeat (first | apply Kd.S_alloc | apply Kd.S_drewN | apply Kd.S_drew)); exact HO547.out) (Kd.R_base ho0) hb)
            have n5 := ra (Kd.R_lower (Kd.R_new' (Kd.R_new' ho0 (Kd.R_lt (rq HO534))) (Kd.R_lt (rq HO542))) (below_size bq))
            have n6 := bb (bk BK525) hb
            have n7 := bb (bk BK543) hb
            have n8_ := bs hb
            clear HO530 HO534 HO538 HO542 HO547 BK525 BK543 HB
            have HO530 := n0
            have HO534 := n1
            have HO538 := n2
            have HO542 := n3
            have HO547 := n4
            have HO552 := n5
            have BK525 := n6
            have BK543 := n7
            have HB := n8_
            clear n0 n1 n2 n3 n4 n5 n6 n7 n8_
            (try clear hb)
            (try clear hb2)
            (try clear hk)
            (try clear hi)
            (try clear ho0)
            obtain ⟨Ao69, co69, eo69⟩ := Kd.R_slice HO552.out
            (first | subst eo69 | (injection eo69 with f1_ f2_ f3_; have f4_ := f1_.symm; have f5_ := f3_.symm; clear f1_ f2_ f3_; subst f4_; subst f5_))
            refine hK.out _ _ ⟨(blk_cell BK543.out 0).trans rfl, (blk_cell BK543.out 1).trans rfl, (blk_cell BK525.out 0).trans rfl, (blk_cell BK525.out 1).trans rfl⟩ (fun hHeld => ?_)
            clear hK K
            refine nm 42 ?_
            refine oe 3 43 (bl 5 15) (fun K hK => ?_)
            refine gs Try.func24 #[.agg #[.string t539, .slice Ao61 t540.length co61], .agg #[.string t549, .slice Ao69 t550.length co69]] ?_
            with_reducible refine (laws_eqProbeTube.calls k t539 _ _ t540 t549 _ _ t550 true _ ?side1 ?side2 ?side3 ?side4 A43.out).mono ?_
            (case side1 => exact sr HO542)
            (case side2 => exact (Kd.R_reads' HO542.out).2.1)
            (case side3 => exact sr HO552)
            (case side4 => exact (Kd.R_reads' HO552.out).2.1)
            rintro e w70 ⟨rfl, hb⟩
            refine ⟨_, rfl, ?_⟩
            have n0 := ra (Kd.S_below (by (with_reducible repeat (first | apply Kd.S_alloc | apply Kd.S_drewN | apply Kd.S_drew)); exact HO530.out) hb)
            have n1 := ra (Kd.R_below (rq HO534) hb)
            have n2 := ra (Kd.S_below (by (with_reducible repeat (first | apply Kd.S_alloc | apply Kd.S_drewN | apply Kd.S_drew)); exact HO538.out) hb)
            have n3 := ra (Kd.R_below (rq HO542) hb)
            have n4 := ra (Kd.S_below (by (with_reducible repeat (first | apply Kd.S_alloc | apply Kd.S_drewN | apply Kd.S_drew)); exact HO547.out) hb)
            have n5 := ra (Kd.R_below (rq HO552) hb)
            have n6 := bb (bk BK525) hb
            have n7 := bb (bk BK543) hb
            have n8_ := bs hb
            clear HO530 HO534 HO538 HO542 HO547 HO552 BK525 BK543 HB
            have HO530 := n0
            have HO534 := n1
            have HO538 := n2
            have HO542 := n3
            have HO547 := n4
            have HO552 := n5
            have BK525 := n6
            have BK543 := n7
            have HB := n8_
            clear n0 n1 n2 n3 n4 n5 n6 n7 n8_
            (try clear hb)
            (try clear hb2)
            (try clear hk)
            (try clear hi)
            refine hK.out _ _ ⟨(blk_cell BK543.out 0).trans rfl, (blk_cell BK543.out 1).trans rfl, (blk_cell BK525.out 0).trans rfl, (blk_cell BK525.out 1).trans rfl⟩ (fun hHeld => ?_)
            clear hK K
            refine nm 43 ?_
            refine pu 4 44 (bl 5 31) ?_
            refine done_ (by kernel_rfl) ?_
            try go_wp2
            go_ret
            exact ⟨re, bq⟩
          · replace c44 := Bool.eq_false_iff.mpr c44
            subst c44
            have H1 : (some false) = some true := by rw [if_neg (show ¬ (false = true) by decide)] at H; exact H
            clear H
            have H := H1
            exact absurd (Option.some.inj H) (by decide)
        · replace c41 := Bool.eq_false_iff.mpr c41
          subst c41
          have H1 : (some false) = some true := by rw [if_neg (show ¬ (false = true) by decide)] at H; exact H
          clear H
          have H := H1
          exact absurd (Option.some.inj H) (by decide)
end Go.Proofs.Ytfoapgcnjnogiaa.PA
