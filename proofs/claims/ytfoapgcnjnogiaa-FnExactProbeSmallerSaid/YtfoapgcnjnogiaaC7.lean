/- A contract of the function laws_FnExactProbeSmaller. (Began as a print of the kit's tool.) -/
import Derived.Test.YtfoapgcnjnogiaaPAd
import Derived.Test.YtfoapgcnjnogiaaCx
import Derived.Test.YtfoapgcnjnogiaaC20
import Derived.Test.YtfoapgcnjnogiaaC22
import Derived.Test.YtfoapgcnjnogiaaC25
import Derived.Test.YtfoapgcnjnogiaaC26
import Derived.Test.YtfoapgcnjnogiaaC24
namespace Go.Proofs.Ytfoapgcnjnogiaa.PA
open Go.RowKit Go.Proofs.YtfoapgcnjnogiaaW.PrintWords Go.Proofs.YtfoapgcnjnogiaaW.PrintLast Go.Proofs.YtfoapgcnjnogiaaW.PrintMore Go.Proofs.Ytfoapgcnjnogiaa.Z
attribute [local go_sem] max2_int min2_int max_two min_two max_three min_three max_four min_four
set_option linter.unusedVariables false
set_option linter.unusedSimpArgs false
set_option maxHeartbeats 8000000 in
set_option maxRecDepth 100000 in
theorem laws_FnExactProbeSmaller.calls (k : Nat) (a0_0 : ByteArray) (A0_1 : Option Addr) (c0_1 : Nat) (l0_1 : List (S24)) (a1_0 : ByteArray) (A1_1 : Option Addr) (c1_1 : Nat) (l1_1 : List (S24)) (r : Bool) (w : World) (hr0_1 : Kd.C k24 w A0_1 l0_1.length l0_1) (hc0_1 : l0_1.length ≤ c0_1) (hr1_1 : Kd.C k24 w A1_1 l1_1.length l1_1) (hc1_1 : l1_1.length ≤ c1_1) (h : laws_FnExactProbeSmaller.f k a0_0 l0_1 a1_0 l1_1 = some r) :
    Calls Try.prog 7 #[.agg #[.string a0_0, .slice A0_1 l0_1.length c0_1], .agg #[.string a1_0, .slice A1_1 l1_1.length c1_1]] w fun e w' => e = .returned (.bool r) ∧ Below w.heap.size w w' := by
  have hu34 := Try.underlying34
  have hu39 := Try.underlying39
  have HR0_1 := Aside0.mk hr0_1
  have HC0_1 := Aside0.mk hc0_1
  clear hr0_1 hc0_1
  have HR1_1 := Aside0.mk hr1_1
  have HC1_1 := Aside0.mk hc1_1
  clear hr1_1 hc1_1
  have HB := ra (Below.refl w.heap.size w)
  have H : ((laws_szProbeTube.f a0_0 l0_1 1048576).bind fun t250 => (if t250 < 0 then (some true) else ((laws_szProbeTube.f a1_0 l1_1 t250).bind fun t251 => (if t251 < 0 then (some true) else ((laws_toProbeTube.f k a0_0 l0_1).bind fun bt252 => ((laws_toProbeTube.f k a1_0 l1_1).bind fun bt256 => ((spec_ProbeSmaller.f k bt252.1 bt252.2 bt256.1 bt256.2).bind fun t260 => ((laws_toProbeTube.f k a0_0 l0_1).bind fun bt261 => ((laws_toProbeTube.f k a1_0 l1_1).bind fun bt266 => ((impl_ProbeSmaller.f k bt261.1 bt261.2 bt266.1 bt266.2).bind fun t271 => (if (t271 != t260) = true then (some false) else ((laws_toProbeTube.f k a0_0 l0_1).bind fun bt272 => ((laws_eqProbeTube.f k bt261.1 bt261.2 bt272.1 bt272.2).bind fun t276 => (if t276 = true then ((laws_toProbeTube.f k a1_0 l1_1).bind fun bt277 => ((laws_eqProbeTube.f k bt266.1 bt266.2 bt277.1 bt277.2).bind fun t281 => (if t281 = true then (some true) else (some false)))) else (some false))))))))))))))) = some r := h
  clear h
  obtain ⟨t250, A3, H⟩ := bo H
  by_cases c4 : t250 < 0
  · rw [if_pos c4] at H
    have c4b0 : decide (t250 < 0) = true := decide_eq_true c4
    clear c4
    obtain rfl := Option.some.inj H
    go_enter Try.func7, Try.ntmps7
    go_wp2_with (first | ((with_reducible refine gate_dst (N := 2) rfl ?_); refine be 2 #[.string a0_0, .slice A0_1 l0_1.length c0_1] 34 ?_; intro gb248 hg w5 hbox hb; have n0 := bs hb; have n1 := ra (hbox); have n2 := bz (w0 := w) hg; have n3 := bz (w0 := w) hg; clear HB; have HB := n0; have BK248 := n1; have GW248 := n2; have GE248 := n3; clear n0 n1 n2 n3; clear hb hbox hg) | ((with_reducible refine gate_dst (N := 3) rfl ?_); refine be 3 #[.string a1_0, .slice A1_1 l1_1.length c1_1] 34 ?_; intro gb249 hg w6 hbox hb; have n0 := bb (bk BK248) hb; have n1 := bs hb; have n2 := ra (hbox); have n3 := bz (w0 := w) hg; have n4 := bz (w0 := w) hg; have n5 := bn hg (bk BK248); have n6 := bm hg (bk BK248); clear BK248 HB; have BK248 := n0; have HB := n1; have BK249 := n2; have GW249 := n3; have GE249 := n4; have NB248_249 := n5; have NB249_248 := n6; clear n0 n1 n2 n3 n4 n5 n6; clear hb hbox hg; have hnb7 := NB248_249.out; have hnc7 := NB249_248.out; obtain ⟨hcz8_0, hcz8_1, hfz8_0, hfz8_1⟩ := zc2 BK248) | ((with_reducible refine gate_callee (f := 20) rfl ?_); refine gl (some 12) Try.func20 #[.agg #[.string a0_0, .slice A0_1 l0_1.length c0_1], .int .i64 1048576] ?_; (with_reducible refine (laws_szProbeTube.calls a0_0 _ _ l0_1 1048576 t250 _ ?side1 ?side2 A3.out).mono ?_); (case side1 => exact sc HR0_1); (case side2 => exact HC0_1.out); rintro e w9 ⟨rfl, hb⟩; refine ⟨_, rfl, ?_⟩; have n0 := bb (bk BK248) hb; have n1 := bb (bk BK249) hb; have n2 := bs hb; clear BK248 BK249 HB; have BK248 := n0; have BK249 := n1; have HB := n2; clear n0 n1 n2; (try clear hb); (try clear hb2); (try clear hk); (try clear hi)))
    go_ret
    exact ⟨re, bq⟩
  · rw [if_neg c4] at H
    have c4b0 : decide (t250 < 0) = false := decide_eq_false c4
    clear c4
    obtain ⟨t251, A10, H⟩ := bo H
    by_cases c11 : t251 < 0
    · rw [if_pos c11] at H
      have c11b0 : decide (t251 < 0) = true := decide_eq_true c11
      clear c11
      obtain rfl := Option.some.inj H
      go_enter Try.func7, Try.ntmps7
      go_wp2_with (first | ((with_reducible refine gate_dst (N := 2) rfl ?_); refine be 2 #[.string a0_0, .slice A0_1 l0_1.length c0_1] 34 ?_; intro gb248 hg w12 hbox hb; have n0 := bs hb; have n1 := ra (hbox); have n2 := bz (w0 := w) hg; have n3 := bz (w0 := w) hg; clear HB; have HB := n0; have BK248 := n1; have GW248 := n2; have GE248 := n3; clear n0 n1 n2 n3; clear hb hbox hg) | ((with_reducible refine gate_dst (N := 3) rfl ?_); refine be 3 #[.string a1_0, .slice A1_1 l1_1.length c1_1] 34 ?_; intro gb249 hg w13 hbox hb; have n0 := bb (bk BK248) hb; have n1 := bs hb; have n2 := ra (hbox); have n3 := bz (w0 := w) hg; have n4 := bz (w0 := w) hg; have n5 := bn hg (bk BK248); have n6 := bm hg (bk BK248); clear BK248 HB; have BK248 := n0; have HB := n1; have BK249 := n2; have GW249 := n3; have GE249 := n4; have NB248_249 := n5; have NB249_248 := n6; clear n0 n1 n2 n3 n4 n5 n6; clear hb hbox hg; have hnb14 := NB248_249.out; have hnc14 := NB249_248.out; obtain ⟨hcz15_0, hcz15_1, hfz15_0, hfz15_1⟩ := zc2 BK248) | ((with_reducible refine gate_callee (f := 20) rfl ?_); refine gl (some 12) Try.func20 #[.agg #[.string a0_0, .slice A0_1 l0_1.length c0_1], .int .i64 1048576] ?_; (with_reducible refine (laws_szProbeTube.calls a0_0 _ _ l0_1 1048576 t250 _ ?side1 ?side2 A3.out).mono ?_); (case side1 => exact sc HR0_1); (case side2 => exact HC0_1.out); rintro e w16 ⟨rfl, hb⟩; refine ⟨_, rfl, ?_⟩; have n0 := bb (bk BK248) hb; have n1 := bb (bk BK249) hb; have n2 := bs hb; clear BK248 BK249 HB; have BK248 := n0; have BK249 := n1; have HB := n2; clear n0 n1 n2; (try clear hb); (try clear hb2); (try clear hk); (try clear hi); obtain ⟨hcz17_0, hcz17_1, hfz17_0, hfz17_1⟩ := zc2 BK249) | ((with_reducible refine gate_callee (f := 20) rfl ?_); refine gl (some 17) Try.func20 #[.agg #[.string a1_0, .slice A1_1 l1_1.length c1_1], .int .i64 t250] ?_; (with_reducible refine (laws_szProbeTube.calls a1_0 _ _ l1_1 t250 t251 _ ?side1 ?side2 A10.out).mono ?_); (case side1 => exact sc HR1_1); (case side2 => exact HC1_1.out); rintro e w18 ⟨rfl, hb⟩; refine ⟨_, rfl, ?_⟩; have n0 := bb (bk BK248) hb; have n1 := bb (bk BK249) hb; have n2 := bs hb; clear BK248 BK249 HB; have BK248 := n0; have BK249 := n1; have HB := n2; clear n0 n1 n2; (try clear hb); (try clear hb2); (try clear hk); (try clear hi)))
      go_ret
      exact ⟨re, bq⟩
    · rw [if_neg c11] at H
      have c11b0 : decide (t251 < 0) = false := decide_eq_false c11
      clear c11
      obtain ⟨⟨t252, t253⟩, A19, H⟩ := bo H
      try dsimp only at H
      obtain ⟨⟨t256, t257⟩, A20, H⟩ := bo H
      try dsimp only at H
      obtain ⟨t260, A21, H⟩ := bo H
      obtain ⟨⟨t261, t262⟩, A22, H⟩ := bo H
      try dsimp only at H
      obtain ⟨⟨t266, t267⟩, A23, H⟩ := bo H
      try dsimp only at H
      obtain ⟨t271, A24, H⟩ := bo H
      by_cases c25 : (t271 != t260) = true
      · rw [if_pos c25] at H
        have c25b0 : (t271 != t260) = true := c25
        (try (have c25b1 : decide (t271 = t260) = false := by simpa using c25))
        (try (have c25b2 : (t271 == t260) = false := by simpa using c25))
        (try (have c25b3 : ¬ (t271 = t260) := by simpa using c25))
        clear c25
        obtain rfl := Option.some.inj H
        go_enter Try.func7, Try.ntmps7
        try go_wp2_with (first | ((with_reducible refine gate_dst (N := 2) rfl ?_); refine be 2 #[.string a0_0, .slice A0_1 l0_1.length c0_1] 34 ?_; intro gb248 hg w26 hbox hb; have n0 := bs hb; have n1 := ra (hbox); have n2 := bz (w0 := w) hg; have n3 := bz (w0 := w) hg; clear HB; have HB := n0; have BK248 := n1; have GW248 := n2; have GE248 := n3; clear n0 n1 n2 n3; clear hb hbox hg) | ((with_reducible refine gate_dst (N := 3) rfl ?_); refine be 3 #[.string a1_0, .slice A1_1 l1_1.length c1_1] 34 ?_; intro gb249 hg w27 hbox hb; have n0 := bb (bk BK248) hb; have n1 := bs hb; have n2 := ra (hbox); have n3 := bz (w0 := w) hg; have n4 := bz (w0 := w) hg; have n5 := bn hg (bk BK248); have n6 := bm hg (bk BK248); clear BK248 HB; have BK248 := n0; have HB := n1; have BK249 := n2; have GW249 := n3; have GE249 := n4; have NB248_249 := n5; have NB249_248 := n6; clear n0 n1 n2 n3 n4 n5 n6; clear hb hbox hg; have hnb28 := NB248_249.out; have hnc28 := NB249_248.out; obtain ⟨hcz29_0, hcz29_1, hfz29_0, hfz29_1⟩ := zc2 BK248) | ((with_reducible refine gate_callee (f := 20) rfl ?_); refine gl (some 12) Try.func20 #[.agg #[.string a0_0, .slice A0_1 l0_1.length c0_1], .int .i64 1048576] ?_; (with_reducible refine (laws_szProbeTube.calls a0_0 _ _ l0_1 1048576 t250 _ ?side1 ?side2 A3.out).mono ?_); (case side1 => exact sc HR0_1); (case side2 => exact HC0_1.out); rintro e w30 ⟨rfl, hb⟩; refine ⟨_, rfl, ?_⟩; have n0 := bb (bk BK248) hb; have n1 := bb (bk BK249) hb; have n2 := bs hb; clear BK248 BK249 HB; have BK248 := n0; have BK249 := n1; have HB := n2; clear n0 n1 n2; (try clear hb); (try clear hb2); (try clear hk); (try clear hi); obtain ⟨hcz31_0, hcz31_1, hfz31_0, hfz31_1⟩ := zc2 BK249) | ((with_reducible refine gate_callee (f := 20) rfl ?_); refine gl (some 17) Try.func20 #[.agg #[.string a1_0, .slice A1_1 l1_1.length c1_1], .int .i64 t250] ?_; (with_reducible refine (laws_szProbeTube.calls a1_0 _ _ l1_1 t250 t251 _ ?side1 ?side2 A10.out).mono ?_); (case side1 => exact sc HR1_1); (case side2 => exact HC1_1.out); rintro e w32 ⟨rfl, hb⟩; refine ⟨_, rfl, ?_⟩; have n0 := bb (bk BK248) hb; have n1 := bb (bk BK249) hb; have n2 := bs hb; clear BK248 BK249 HB; have BK248 := n0; have BK249 := n1; have HB := n2; clear n0 n1 n2; (try clear hb); (try clear hb2); (try clear hk); (try clear hi)))
        have n0 := ra (blk_drew BK248.out)
        have n1 := ra (blk_drew BK249.out)
        have n2 := ra (below_drew1 HB.out)
        clear BK248 BK249 HB
        have BK248 := n0
        have BK249 := n1
        have HB := n2
        clear n0 n1 n2
        refine start_ (n := 6) (S := fun w' => w'.cell? ⟨gb248, 0, none⟩ = some (.string a0_0) ∧ w'.cell? ⟨gb248, 1, none⟩ = some (.slice A0_1 l0_1.length c0_1) ∧ w'.cell? ⟨gb249, 0, none⟩ = some (.string a1_0) ∧ w'.cell? ⟨gb249, 1, none⟩ = some (.slice A1_1 l1_1.length c1_1)) (ds := []) (bl 6 0) (by kernel_rfl) rfl rfl ⟨(blk_cell BK248.out 0).trans rfl, (blk_cell BK248.out 1).trans rfl, (blk_cell BK249.out 0).trans rfl, (blk_cell BK249.out 1).trans rfl⟩ (fun hHeld => ?_)
        generalize w32.drew = w33 at BK248 BK249 HB hHeld ⊢
        refine tk 0 20 (bl 6 1) ?_ hHeld
        refine tk 2 22 (bl 6 5) ?_ hHeld
        refine oe 1 21 (bl 6 7) (fun K hK => ?_)
        refine gs Try.func22 #[.agg #[.string a0_0, .slice A0_1 l0_1.length c0_1]] ?_
        with_reducible refine (laws_toProbeTube.calls k a0_0 _ _ l0_1 t252 t253 _ ?side1 ?side2 A19.out).mono ?_
        (case side1 => exact sc HR0_1)
        (case side2 => exact HC0_1.out)
        rintro e w34 ⟨v254, rfl, ho0, hb⟩
        refine ⟨_, rfl, ?_⟩
        have n0 := ra (Kd.R_lower ho0 (below_size bq))
        have n1 := bb (bk BK248) hb
        have n2 := bb (bk BK249) hb
        have n3 := bs hb
        clear BK248 BK249 HB
        have HO255 := n0
        have BK248 := n1
        have BK249 := n2
        have HB := n3
        clear n0 n1 n2 n3
        (try clear hb)
        (try clear hb2)
        (try clear hk)
        (try clear hi)
        (try clear ho0)
        refine hK.out _ _ ⟨(blk_cell BK248.out 0).trans rfl, (blk_cell BK248.out 1).trans rfl, (blk_cell BK249.out 0).trans rfl, (blk_cell BK249.out 1).trans rfl⟩ (fun hHeld => ?_)
        clear hK K
        refine nm 21 ?_
        refine oe 3 23 (bl 6 15) (fun K hK => ?_)
        refine gs Try.func22 #[.agg #[.string a1_0, .slice A1_1 l1_1.length c1_1]] ?_
        with_reducible refine (laws_toProbeTube.calls k a1_0 _ _ l1_1 t256 t257 _ ?side1 ?side2 A20.out).mono ?_
        (case side1 => exact sc HR1_1)
        (case side2 => exact HC1_1.out)
        rintro e w35 ⟨v258, rfl, ho0, hb⟩
        refine ⟨_, rfl, ?_⟩
        have n0 := ra (Kd.R_elder' (rq HO255) (Kd.R_base ho0) hb)
        have n1 := ra (Kd.R_lower (Kd.R_new' ho0 (Kd.R_lt (rq HO255))) (below_size bq))
        have n2 := bb (bk BK248) hb
        have n3 := bb (bk BK249) hb
        have n4 := bs hb
        clear HO255 BK248 BK249 HB
        have HO255 := n0
        have HO259 := n1
        have BK248 := n2
        have BK249 := n3
        have HB := n4
        clear n0 n1 n2 n3 n4
        (try clear hb)
        (try clear hb2)
        (try clear hk)
        (try clear hi)
        (try clear ho0)
        obtain ⟨Ao36, co36, eo36⟩ := Kd.R_slice HO255.out
        (first | subst eo36 | (injection eo36 with f1_ f2_ f3_; have f4_ := f1_.symm; have f5_ := f3_.symm; clear f1_ f2_ f3_; subst f4_; subst f5_))
        obtain ⟨Ao37, co37, eo37⟩ := Kd.R_slice HO259.out
        (first | subst eo37 | (injection eo37 with f1_ f2_ f3_; have f4_ := f1_.symm; have f5_ := f3_.symm; clear f1_ f2_ f3_; subst f4_; subst f5_))
        refine hK.out _ _ ⟨(blk_cell BK248.out 0).trans rfl, (blk_cell BK248.out 1).trans rfl, (blk_cell BK249.out 0).trans rfl, (blk_cell BK249.out 1).trans rfl⟩ (fun hHeld => ?_)
        clear hK K
        refine nm 23 ?_
        refine oe 4 24 (bl 6 31) (fun K hK => ?_)
        refine gs Try.func25 #[.agg #[.string t252, .slice Ao36 t253.length co36], .agg #[.string t256, .slice Ao37 t257.length co37]] ?_
        with_reducible refine (spec_ProbeSmaller.calls k t252 _ _ t253 t256 _ _ t257 t260 _ ?side1 ?side2 ?side3 ?side4 A21.out).mono ?_
        (case side1 => exact sr HO255)
        (case side2 => exact (Kd.R_reads' HO255.out).2.1)
        (case side3 => exact sr HO259)
        (case side4 => exact (Kd.R_reads' HO259.out).2.1)
        rintro e w38 ⟨rfl, hb⟩
        refine ⟨_, rfl, ?_⟩
        have n0 := ra (Kd.R_below (rq HO255) hb)
        have n1 := ra (Kd.R_below (rq HO259) hb)
        have n2 := bb (bk BK248) hb
        have n3 := bb (bk BK249) hb
        have n4 := bs hb
        clear HO255 HO259 BK248 BK249 HB
        have HO255 := n0
        have HO259 := n1
        have BK248 := n2
        have BK249 := n3
        have HB := n4
        clear n0 n1 n2 n3 n4
        (try clear hb)
        (try clear hb2)
        (try clear hk)
        (try clear hi)
        refine hK.out _ _ ⟨(blk_cell BK248.out 0).trans rfl, (blk_cell BK248.out 1).trans rfl, (blk_cell BK249.out 0).trans rfl, (blk_cell BK249.out 1).trans rfl⟩ (fun hHeld => ?_)
        clear hK K
        refine nm 24 ?_
        refine pu 5 6 (bl 6 63) ?_
        refine done_ (by kernel_rfl) ?_
        obtain ⟨hcz39_0, hcz39_1, hfz39_0, hfz39_1⟩ := zc2 BK248
        try go_wp2_with (first | ((with_reducible refine gate_callee (f := 22) rfl ?_); refine gl (some 26) Try.func22 #[.agg #[.string a0_0, .slice A0_1 l0_1.length c0_1]] ?_; (with_reducible refine (laws_toProbeTube.calls k a0_0 _ _ l0_1 t261 t262 _ ?side1 ?side2 A22.out).mono ?_); (case side1 => exact sc HR0_1); (case side2 => exact HC0_1.out); rintro e w40 ⟨v263, rfl, ho0, hb⟩; refine ⟨_, rfl, ?_⟩; have n0 := ra (Kd.R_elder' (rq HO255) (Kd.R_base ho0) hb); have n1 := ra (Kd.R_elder' (rq HO259) (Kd.R_base ho0) hb); have n2 := ra (Kd.R_lower (Kd.R_new' (Kd.R_new' ho0 (Kd.R_lt (rq HO255))) (Kd.R_lt (rq HO259))) (below_size bq)); have n3 := bb (bk BK248) hb; have n4 := bb (bk BK249) hb; have n5 := bs hb; clear HO255 HO259 BK248 BK249 HB; have HO255 := n0; have HO259 := n1; have HO264 := n2; have BK248 := n3; have BK249 := n4; have HB := n5; clear n0 n1 n2 n3 n4 n5; (try clear hb); (try clear hb2); (try clear hk); (try clear hi); (try clear ho0)) | ((with_reducible refine gate_dst (N := 7) rfl ?_); refine be 7 #[.string (⟨#[]⟩ : ByteArray), .slice none 0 0] 39 ?_; intro gb265 hg w41 hbox hb; have n0 := ra (Kd.R_below (rq HO255) hb); have n1 := ra (Kd.R_below (rq HO259) hb); have n2 := ra (Kd.R_below (rq HO264) hb); have n3 := bb (bk BK248) hb; have n4 := bb (bk BK249) hb; have n5 := bs hb; have n6 := ra (hbox); have n7 := bz (w0 := w) hg; have n8_ := bz (w0 := w) hg; have n9_ := bn hg (bk BK248); have n10_ := bm hg (bk BK248); have n11_ := bn hg (bk BK249); have n12_ := bm hg (bk BK249); clear HO255 HO259 HO264 BK248 BK249 HB; have HO255 := n0; have HO259 := n1; have HO264 := n2; have BK248 := n3; have BK249 := n4; have HB := n5; have BK265 := n6; have GW265 := n7; have GE265 := n8_; have NB248_265 := n9_; have NB265_248 := n10_; have NB249_265 := n11_; have NB265_249 := n12_; clear n0 n1 n2 n3 n4 n5 n6 n7 n8_ n9_ n10_ n11_ n12_; clear hb hbox hg; have hnb42 := NB265_248.out; have hnc42 := NB248_265.out; have hnb43 := NB265_249.out; have hnc43 := NB249_265.out; obtain ⟨hcz44_0, hcz44_1, hfz44_0, hfz44_1⟩ := zc2 BK265; obtain ⟨Ao45, co45, eo45⟩ := Kd.R_slice HO264.out; subst eo45; obtain ⟨hcz46_0, hcz46_1, hfz46_0, hfz46_1⟩ := zc2 BK249) | ((with_reducible refine gate_callee (f := 22) rfl ?_); refine gl (some 28) Try.func22 #[.agg #[.string a1_0, .slice A1_1 l1_1.length c1_1]] ?_; (with_reducible refine (laws_toProbeTube.calls k a1_0 _ _ l1_1 t266 t267 _ ?side1 ?side2 A23.out).mono ?_); (case side1 => exact Kd.C_below HR1_1.out bq); (case side2 => exact HC1_1.out); rintro e w47 ⟨v268, rfl, ho0, hb⟩; refine ⟨_, rfl, ?_⟩; have n0 := ra (Kd.R_elder' (rr (Kd.R_mono (Kd.R_far (p := ⟨gb265, 1, none⟩) (Kd.R_far (p := ⟨gb265, 0, none⟩) (Kd.R_types HO255.out BK265.out (by decide)) (fun _ hk => hk.2) (.string t261)) (fun _ hk => hk.2) (.slice Ao45 t262.length co45)) (fun _ h_ => h_.1))) (Kd.R_base ho0) hb); have n1 := ra (Kd.R_elder' (rr (Kd.R_mono (Kd.R_far (p := ⟨gb265, 1, none⟩) (Kd.R_far (p := ⟨gb265, 0, none⟩) (Kd.R_types HO259.out BK265.out (by decide)) (fun _ hk => hk.2) (.string t261)) (fun _ hk => hk.2) (.slice Ao45 t262.length co45)) (fun _ h_ => h_.1))) (Kd.R_base ho0) hb); have n2 := ra (Kd.R_elder' (rr (Kd.R_mono (Kd.R_far (p := ⟨gb265, 1, none⟩) (Kd.R_far (p := ⟨gb265, 0, none⟩) (Kd.R_types HO264.out BK265.out (by decide)) (fun _ hk => hk.2) (.string t261)) (fun _ hk => hk.2) (.slice Ao45 t262.length co45)) (fun _ h_ => h_.1))) (Kd.R_base ho0) hb); have n3 := ra (Kd.R_lower (Kd.R_new' (Kd.R_new' (Kd.R_new' ho0 (Kd.R_lt (rr (Kd.R_mono (Kd.R_far (p := ⟨gb265, 1, none⟩) (Kd.R_far (p := ⟨gb265, 0, none⟩) (Kd.R_types HO255.out BK265.out (by decide)) (fun _ hk => hk.2) (.string t261)) (fun _ hk => hk.2) (.slice Ao45 t262.length co45)) (fun _ h_ => h_.1))))) (Kd.R_lt (rr (Kd.R_mono (Kd.R_far (p := ⟨gb265, 1, none⟩) (Kd.R_far (p := ⟨gb265, 0, none⟩) (Kd.R_types HO259.out BK265.out (by decide)) (fun _ hk => hk.2) (.string t261)) (fun _ hk => hk.2) (.slice Ao45 t262.length co45)) (fun _ h_ => h_.1))))) (Kd.R_lt (rr (Kd.R_mono (Kd.R_far (p := ⟨gb265, 1, none⟩) (Kd.R_far (p := ⟨gb265, 0, none⟩) (Kd.R_types HO264.out BK265.out (by decide)) (fun _ hk => hk.2) (.string t261)) (fun _ hk => hk.2) (.slice Ao45 t262.length co45)) (fun _ h_ => h_.1))))) (below_size bq)); have n4 := bb (bk BK248) hb; have n5 := bb (bk BK249) hb; have n6 := bb (o := .cells #[.string t261, .slice Ao45 t262.length co45] 39 (0, 0)) (bp BK265) hb; have n7 := bs hb; clear HO255 HO259 HO264 BK248 BK249 BK265 HB; have HO255 := n0; have HO259 := n1; have HO264 := n2; have HO269 := n3; have BK248 := n4; have BK249 := n5; have BK265 := n6; have HB := n7; clear n0 n1 n2 n3 n4 n5 n6 n7; (try clear hb); (try clear hb2); (try clear hk); (try clear hi); (try clear ho0)) | ((with_reducible refine gate_dst (N := 8) rfl ?_); refine be 8 #[.string (⟨#[]⟩ : ByteArray), .slice none 0 0] 39 ?_; intro gb270 hg w48 hbox hb; have n0 := ra (Kd.R_below (rq HO255) hb); have n1 := ra (Kd.R_below (rq HO259) hb); have n2 := ra (Kd.R_below (rq HO264) hb); have n3 := ra (Kd.R_below (rq HO269) hb); have n4 := bb (bk BK248) hb; have n5 := bb (bk BK249) hb; have n6 := bb (bk BK265) hb; have n7 := bs hb; have n8_ := ra (hbox); have n9_ := bz (w0 := w) hg; have n10_ := bz (w0 := w) hg; have n11_ := bn hg (bk BK248); have n12_ := bm hg (bk BK248); have n13_ := bn hg (bk BK249); have n14_ := bm hg (bk BK249); have n15_ := bn hg (bk BK265); have n16_ := bm hg (bk BK265); clear HO255 HO259 HO264 HO269 BK248 BK249 BK265 HB; have HO255 := n0; have HO259 := n1; have HO264 := n2; have HO269 := n3; have BK248 := n4; have BK249 := n5; have BK265 := n6; have HB := n7; have BK270 := n8_; have GW270 := n9_; have GE270 := n10_; have NB248_270 := n11_; have NB270_248 := n12_; have NB249_270 := n13_; have NB270_249 := n14_; have NB265_270 := n15_; have NB270_265 := n16_; clear n0 n1 n2 n3 n4 n5 n6 n7 n8_ n9_ n10_ n11_ n12_ n13_ n14_ n15_ n16_; clear hb hbox hg; have hnb49 := NB270_248.out; have hnc49 := NB248_270.out; have hnb50 := NB270_249.out; have hnc50 := NB249_270.out; have hnb51 := NB270_265.out; have hnc51 := NB265_270.out; obtain ⟨hcz52_0, hcz52_1, hfz52_0, hfz52_1⟩ := zc2 BK270; obtain ⟨Ao53, co53, eo53⟩ := Kd.R_slice HO269.out; subst eo53; obtain ⟨hcz54_0, hcz54_1, hfz54_0, hfz54_1⟩ := zc2 BK265) | ((with_reducible refine gate_callee (f := 26) rfl ?_); refine gl (some 31) Try.func26 #[.agg #[.string t261, .slice Ao45 t262.length co45], .agg #[.string t266, .slice Ao53 t267.length co53]] ?_; (with_reducible refine (impl_ProbeSmaller.calls k t261 _ _ t262 t266 _ _ t267 t271 _ ?side1 ?side2 ?side3 ?side4 A24.out).mono ?_); (case side1 => refine (Kd.R_reads' (e := 26) (base := w.heap.size) (ok := fun k_ => (((True ∧ some k_ ≠ (.slice Ao36 t253.length co36 : Value).ownBlock) ∧ some k_ ≠ (.slice Ao37 t257.length co37 : Value).ownBlock) ∧ some k_ ≠ (.slice Ao53 t267.length co53 : Value).ownBlock)) (n := t262.length) (c := co45) ?_).2.2; exact (rr (Kd.R_mono (Kd.R_far (p := ⟨gb270, 1, none⟩) (Kd.R_far (p := ⟨gb270, 0, none⟩) (Kd.R_types HO264.out BK270.out (by decide)) (fun _ hk => hk.2) (.string t266)) (fun _ hk => hk.2) (.slice Ao53 t267.length co53)) (fun _ h_ => h_.1)))); (case side2 => exact (Kd.R_reads' HO264.out).2.1); (case side3 => refine (Kd.R_reads' (e := 26) (base := w.heap.size) (ok := fun k_ => (((True ∧ some k_ ≠ (.slice Ao36 t253.length co36 : Value).ownBlock) ∧ some k_ ≠ (.slice Ao37 t257.length co37 : Value).ownBlock) ∧ some k_ ≠ (.slice Ao45 t262.length co45 : Value).ownBlock)) (n := t267.length) (c := co53) ?_).2.2; exact (rr (Kd.R_mono (Kd.R_far (p := ⟨gb270, 1, none⟩) (Kd.R_far (p := ⟨gb270, 0, none⟩) (Kd.R_types HO269.out BK270.out (by decide)) (fun _ hk => hk.2) (.string t266)) (fun _ hk => hk.2) (.slice Ao53 t267.length co53)) (fun _ h_ => h_.1)))); (case side4 => exact (Kd.R_reads' HO269.out).2.1); rintro e w55 ⟨rfl, hb⟩; refine ⟨_, rfl, ?_⟩; have n0 := ra (Kd.R_below (rr (Kd.R_mono (Kd.R_far (p := ⟨gb270, 1, none⟩) (Kd.R_far (p := ⟨gb270, 0, none⟩) (Kd.R_types HO255.out BK270.out (by decide)) (fun _ hk => hk.2) (.string t266)) (fun _ hk => hk.2) (.slice Ao53 t267.length co53)) (fun _ h_ => h_.1))) hb); have n1 := ra (Kd.R_below (rr (Kd.R_mono (Kd.R_far (p := ⟨gb270, 1, none⟩) (Kd.R_far (p := ⟨gb270, 0, none⟩) (Kd.R_types HO259.out BK270.out (by decide)) (fun _ hk => hk.2) (.string t266)) (fun _ hk => hk.2) (.slice Ao53 t267.length co53)) (fun _ h_ => h_.1))) hb); have n2 := ra (Kd.R_below (rr (Kd.R_mono (Kd.R_far (p := ⟨gb270, 1, none⟩) (Kd.R_far (p := ⟨gb270, 0, none⟩) (Kd.R_types HO264.out BK270.out (by decide)) (fun _ hk => hk.2) (.string t266)) (fun _ hk => hk.2) (.slice Ao53 t267.length co53)) (fun _ h_ => h_.1))) hb); have n3 := ra (Kd.R_below (rr (Kd.R_mono (Kd.R_far (p := ⟨gb270, 1, none⟩) (Kd.R_far (p := ⟨gb270, 0, none⟩) (Kd.R_types HO269.out BK270.out (by decide)) (fun _ hk => hk.2) (.string t266)) (fun _ hk => hk.2) (.slice Ao53 t267.length co53)) (fun _ h_ => h_.1))) hb); have n4 := bb (bk BK248) hb; have n5 := bb (bk BK249) hb; have n6 := bb (bk BK265) hb; have n7 := bb (o := .cells #[.string t266, .slice Ao53 t267.length co53] 39 (0, 0)) (bp BK270) hb; have n8_ := bs hb; clear HO255 HO259 HO264 HO269 BK248 BK249 BK265 BK270 HB; have HO255 := n0; have HO259 := n1; have HO264 := n2; have HO269 := n3; have BK248 := n4; have BK249 := n5; have BK265 := n6; have BK270 := n7; have HB := n8_; clear n0 n1 n2 n3 n4 n5 n6 n7 n8_; (try clear hb); (try clear hb2); (try clear hk); (try clear hi)))
        go_ret
        exact ⟨re, bq⟩
      · rw [if_neg c25] at H
        have c25b0 : (t271 != t260) = false := by simpa using c25
        (try (have c25b1 : decide (t271 = t260) = true := by simpa using c25))
        (try (have c25b2 : (t271 == t260) = true := by simpa using c25))
        clear c25
        obtain ⟨⟨t272, t273⟩, A56, H⟩ := bo H
        try dsimp only at H
        obtain ⟨t276, A57, H⟩ := bo H
        by_cases c58 : t276 = true
        · subst c58
          replace H := it H rfl
          obtain ⟨⟨t277, t278⟩, A59, H⟩ := bo H
          try dsimp only at H
          obtain ⟨t281, A60, H⟩ := bo H
          by_cases c61 : t281 = true
          · subst c61
            replace H := it H rfl
            obtain rfl := Option.some.inj H
            go_enter Try.func7, Try.ntmps7
            try go_wp2_with (first | ((with_reducible refine gate_dst (N := 2) rfl ?_); refine be 2 #[.string a0_0, .slice A0_1 l0_1.length c0_1] 34 ?_; intro gb248 hg w62 hbox hb; have n0 := bs hb; have n1 := ra (hbox); have n2 := bz (w0 := w) hg; have n3 := bz (w0 := w) hg; clear HB; have HB := n0; have BK248 := n1; have GW248 := n2; have GE248 := n3; clear n0 n1 n2 n3; clear hb hbox hg) | ((with_reducible refine gate_dst (N := 3) rfl ?_); refine be 3 #[.string a1_0, .slice A1_1 l1_1.length c1_1] 34 ?_; intro gb249 hg w63 hbox hb; have n0 := bb (bk BK248) hb; have n1 := bs hb; have n2 := ra (hbox); have n3 := bz (w0 := w) hg; have n4 := bz (w0 := w) hg; have n5 := bn hg (bk BK248); have n6 := bm hg (bk BK248); clear BK248 HB; have BK248 := n0; have HB := n1; have BK249 := n2; have GW249 := n3; have GE249 := n4; have NB248_249 := n5; have NB249_248 := n6; clear n0 n1 n2 n3 n4 n5 n6; clear hb hbox hg; have hnb64 := NB248_249.out; have hnc64 := NB249_248.out; obtain ⟨hcz65_0, hcz65_1, hfz65_0, hfz65_1⟩ := zc2 BK248) | ((with_reducible refine gate_callee (f := 20) rfl ?_); refine gl (some 12) Try.func20 #[.agg #[.string a0_0, .slice A0_1 l0_1.length c0_1], .int .i64 1048576] ?_; (with_reducible refine (laws_szProbeTube.calls a0_0 _ _ l0_1 1048576 t250 _ ?side1 ?side2 A3.out).mono ?_); (case side1 => exact sc HR0_1); (case side2 => exact HC0_1.out); rintro e w66 ⟨rfl, hb⟩; refine ⟨_, rfl, ?_⟩; have n0 := bb (bk BK248) hb; have n1 := bb (bk BK249) hb; have n2 := bs hb; clear BK248 BK249 HB; have BK248 := n0; have BK249 := n1; have HB := n2; clear n0 n1 n2; (try clear hb); (try clear hb2); (try clear hk); (try clear hi); obtain ⟨hcz67_0, hcz67_1, hfz67_0, hfz67_1⟩ := zc2 BK249) | ((with_reducible refine gate_callee (f := 20) rfl ?_); refine gl (some 17) Try.func20 #[.agg #[.string a1_0, .slice A1_1 l1_1.length c1_1], .int .i64 t250] ?_; (with_reducible refine (laws_szProbeTube.calls a1_0 _ _ l1_1 t250 t251 _ ?side1 ?side2 A10.out).mono ?_); (case side1 => exact sc HR1_1); (case side2 => exact HC1_1.out); rintro e w68 ⟨rfl, hb⟩; refine ⟨_, rfl, ?_⟩; have n0 := bb (bk BK248) hb; have n1 := bb (bk BK249) hb; have n2 := bs hb; clear BK248 BK249 HB; have BK248 := n0; have BK249 := n1; have HB := n2; clear n0 n1 n2; (try clear hb); (try clear hb2); (try clear hk); (try clear hi)))
            have n0 := ra (blk_drew BK248.out)
            have n1 := ra (blk_drew BK249.out)
            have n2 := ra (below_drew1 HB.out)
            clear BK248 BK249 HB
            have BK248 := n0
            have BK249 := n1
            have HB := n2
            clear n0 n1 n2
            refine start_ (n := 6) (S := fun w' => w'.cell? ⟨gb248, 0, none⟩ = some (.string a0_0) ∧ w'.cell? ⟨gb248, 1, none⟩ = some (.slice A0_1 l0_1.length c0_1) ∧ w'.cell? ⟨gb249, 0, none⟩ = some (.string a1_0) ∧ w'.cell? ⟨gb249, 1, none⟩ = some (.slice A1_1 l1_1.length c1_1)) (ds := []) (bl 6 0) (by kernel_rfl) rfl rfl ⟨(blk_cell BK248.out 0).trans rfl, (blk_cell BK248.out 1).trans rfl, (blk_cell BK249.out 0).trans rfl, (blk_cell BK249.out 1).trans rfl⟩ (fun hHeld => ?_)
            generalize w68.drew = w69 at BK248 BK249 HB hHeld ⊢
            refine tk 0 20 (bl 6 1) ?_ hHeld
            refine tk 2 22 (bl 6 5) ?_ hHeld
            refine oe 1 21 (bl 6 7) (fun K hK => ?_)
            refine gs Try.func22 #[.agg #[.string a0_0, .slice A0_1 l0_1.length c0_1]] ?_
            with_reducible refine (laws_toProbeTube.calls k a0_0 _ _ l0_1 t252 t253 _ ?side1 ?side2 A19.out).mono ?_
            (case side1 => exact sc HR0_1)
            (case side2 => exact HC0_1.out)
            rintro e w70 ⟨v254, rfl, ho0, hb⟩
            refine ⟨_, rfl, ?_⟩
            have n0 := ra (Kd.R_lower ho0 (below_size bq))
            have n1 := bb (bk BK248) hb
            have n2 := bb (bk BK249) hb
            have n3 := bs hb
            clear BK248 BK249 HB
            have HO255 := n0
            have BK248 := n1
            have BK249 := n2
            have HB := n3
            clear n0 n1 n2 n3
            (try clear hb)
            (try clear hb2)
            (try clear hk)
            (try clear hi)
            (try clear ho0)
            refine hK.out _ _ ⟨(blk_cell BK248.out 0).trans rfl, (blk_cell BK248.out 1).trans rfl, (blk_cell BK249.out 0).trans rfl, (blk_cell BK249.out 1).trans rfl⟩ (fun hHeld => ?_)
            clear hK K
            refine nm 21 ?_
            refine oe 3 23 (bl 6 15) (fun K hK => ?_)
            refine gs Try.func22 #[.agg #[.string a1_0, .slice A1_1 l1_1.length c1_1]] ?_
            with_reducible refine (laws_toProbeTube.calls k a1_0 _ _ l1_1 t256 t257 _ ?side1 ?side2 A20.out).mono ?_
            (case side1 => exact sc HR1_1)
            (case side2 => exact HC1_1.out)
            rintro e w71 ⟨v258, rfl, ho0, hb⟩
            refine ⟨_, rfl, ?_⟩
            have n0 := ra (Kd.R_elder' (rq HO255) (Kd.R_base ho0) hb)
            have n1 := ra (Kd.R_lower (Kd.R_new' ho0 (Kd.R_lt (rq HO255))) (below_size bq))
            have n2 := bb (bk BK248) hb
            have n3 := bb (bk BK249) hb
            have n4 := bs hb
            clear HO255 BK248 BK249 HB
            have HO255 := n0
            have HO259 := n1
            have BK248 := n2
            have BK249 := n3
            have HB := n4
            clear n0 n1 n2 n3 n4
            (try clear hb)
            (try clear hb2)
            (try clear hk)
            (try clear hi)
            (try clear ho0)
            obtain ⟨Ao72, co72, eo72⟩ := Kd.R_slice HO255.out
            (first | subst eo72 | (injection eo72 with f1_ f2_ f3_; have f4_ := f1_.symm; have f5_ := f3_.symm; clear f1_ f2_ f3_; subst f4_; subst f5_))
            obtain ⟨Ao73, co73, eo73⟩ := Kd.R_slice HO259.out
            (first | subst eo73 | (injection eo73 with f1_ f2_ f3_; have f4_ := f1_.symm; have f5_ := f3_.symm; clear f1_ f2_ f3_; subst f4_; subst f5_))
            refine hK.out _ _ ⟨(blk_cell BK248.out 0).trans rfl, (blk_cell BK248.out 1).trans rfl, (blk_cell BK249.out 0).trans rfl, (blk_cell BK249.out 1).trans rfl⟩ (fun hHeld => ?_)
            clear hK K
            refine nm 23 ?_
            refine oe 4 24 (bl 6 31) (fun K hK => ?_)
            refine gs Try.func25 #[.agg #[.string t252, .slice Ao72 t253.length co72], .agg #[.string t256, .slice Ao73 t257.length co73]] ?_
            with_reducible refine (spec_ProbeSmaller.calls k t252 _ _ t253 t256 _ _ t257 t260 _ ?side1 ?side2 ?side3 ?side4 A21.out).mono ?_
            (case side1 => exact sr HO255)
            (case side2 => exact (Kd.R_reads' HO255.out).2.1)
            (case side3 => exact sr HO259)
            (case side4 => exact (Kd.R_reads' HO259.out).2.1)
            rintro e w74 ⟨rfl, hb⟩
            refine ⟨_, rfl, ?_⟩
            have n0 := ra (Kd.R_below (rq HO255) hb)
            have n1 := ra (Kd.R_below (rq HO259) hb)
            have n2 := bb (bk BK248) hb
            have n3 := bb (bk BK249) hb
            have n4 := bs hb
            clear HO255 HO259 BK248 BK249 HB
            have HO255 := n0
            have HO259 := n1
            have BK248 := n2
            have BK249 := n3
            have HB := n4
            clear n0 n1 n2 n3 n4
            (try clear hb)
            (try clear hb2)
            (try clear hk)
            (try clear hi)
            refine hK.out _ _ ⟨(blk_cell BK248.out 0).trans rfl, (blk_cell BK248.out 1).trans rfl, (blk_cell BK249.out 0).trans rfl, (blk_cell BK249.out 1).trans rfl⟩ (fun hHeld => ?_)
            clear hK K
            refine nm 24 ?_
            refine pu 5 6 (bl 6 63) ?_
            refine done_ (by kernel_rfl) ?_
            obtain ⟨hcz75_0, hcz75_1, hfz75_0, hfz75_1⟩ := zc2 BK248
            try go_wp2_with (first | ((with_reducible refine gate_callee (f := 22) rfl ?_); refine gl (some 26) Try.func22 #[.agg #[.string a0_0, .slice A0_1 l0_1.length c0_1]] ?_; (with_reducible refine (laws_toProbeTube.calls k a0_0 _ _ l0_1 t261 t262 _ ?side1 ?side2 A22.out).mono ?_); (case side1 => exact sc HR0_1); (case side2 => exact HC0_1.out); rintro e w76 ⟨v263, rfl, ho0, hb⟩; refine ⟨_, rfl, ?_⟩; have n0 := ra (Kd.R_elder' (rq HO255) (Kd.R_base ho0) hb); have n1 := ra (Kd.R_elder' (rq HO259) (Kd.R_base ho0) hb); have n2 := ra (Kd.R_lower (Kd.R_new' (Kd.R_new' ho0 (Kd.R_lt (rq HO255))) (Kd.R_lt (rq HO259))) (below_size bq)); have n3 := bb (bk BK248) hb; have n4 := bb (bk BK249) hb; have n5 := bs hb; clear HO255 HO259 BK248 BK249 HB; have HO255 := n0; have HO259 := n1; have HO264 := n2; have BK248 := n3; have BK249 := n4; have HB := n5; clear n0 n1 n2 n3 n4 n5; (try clear hb); (try clear hb2); (try clear hk); (try clear hi); (try clear ho0)) | ((with_reducible refine gate_dst (N := 7) rfl ?_); refine be 7 #[.string (⟨#[]⟩ : ByteArray), .slice none 0 0] 39 ?_; intro gb265 hg w77 hbox hb; have n0 := ra (Kd.R_below (rq HO255) hb); have n1 := ra (Kd.R_below (rq HO259) hb); have n2 := ra (Kd.R_below (rq HO264) hb); have n3 := bb (bk BK248) hb; have n4 := bb (bk BK249) hb; have n5 := bs hb; have n6 := ra (hbox); have n7 := bz (w0 := w) hg; have n8_ := bz (w0 := w) hg; have n9_ := bn hg (bk BK248); have n10_ := bm hg (bk BK248); have n11_ := bn hg (bk BK249); have n12_ := bm hg (bk BK249); clear HO255 HO259 HO264 BK248 BK249 HB; have HO255 := n0; have HO259 := n1; have HO264 := n2; have BK248 := n3; have BK249 := n4; have HB := n5; have BK265 := n6; have GW265 := n7; have GE265 := n8_; have NB248_265 := n9_; have NB265_248 := n10_; have NB249_265 := n11_; have NB265_249 := n12_; clear n0 n1 n2 n3 n4 n5 n6 n7 n8_ n9_ n10_ n11_ n12_; clear hb hbox hg; have hnb78 := NB265_248.out; have hnc78 := NB248_265.out; have hnb79 := NB265_249.out; have hnc79 := NB249_265.out; obtain ⟨hcz80_0, hcz80_1, hfz80_0, hfz80_1⟩ := zc2 BK265; obtain ⟨Ao81, co81, eo81⟩ := Kd.R_slice HO264.out; subst eo81; obtain ⟨hcz82_0, hcz82_1, hfz82_0, hfz82_1⟩ := zc2 BK249) | ((with_reducible refine gate_callee (f := 22) rfl ?_); refine gl (some 28) Try.func22 #[.agg #[.string a1_0, .slice A1_1 l1_1.length c1_1]] ?_; (with_reducible refine (laws_toProbeTube.calls k a1_0 _ _ l1_1 t266 t267 _ ?side1 ?side2 A23.out).mono ?_); (case side1 => exact Kd.C_below HR1_1.out bq); (case side2 => exact HC1_1.out); rintro e w83 ⟨v268, rfl, ho0, hb⟩; refine ⟨_, rfl, ?_⟩; have n0 := ra (Kd.R_elder' (rr (Kd.R_mono (Kd.R_far (p := ⟨gb265, 1, none⟩) (Kd.R_far (p := ⟨gb265, 0, none⟩) (Kd.R_types HO255.out BK265.out (by decide)) (fun _ hk => hk.2) (.string t261)) (fun _ hk => hk.2) (.slice Ao81 t262.length co81)) (fun _ h_ => h_.1))) (Kd.R_base ho0) hb); have n1 := ra (Kd.R_elder' (rr (Kd.R_mono (Kd.R_far (p := ⟨gb265, 1, none⟩) (Kd.R_far (p := ⟨gb265, 0, none⟩) (Kd.R_types HO259.out BK265.out (by decide)) (fun _ hk => hk.2) (.string t261)) (fun _ hk => hk.2) (.slice Ao81 t262.length co81)) (fun _ h_ => h_.1))) (Kd.R_base ho0) hb); have n2 := ra (Kd.R_elder' (rr (Kd.R_mono (Kd.R_far (p := ⟨gb265, 1, none⟩) (Kd.R_far (p := ⟨gb265, 0, none⟩) (Kd.R_types HO264.out BK265.out (by decide)) (fun _ hk => hk.2) (.string t261)) (fun _ hk => hk.2) (.slice Ao81 t262.length co81)) (fun _ h_ => h_.1))) (Kd.R_base ho0) hb); have n3 := ra (Kd.R_lower (Kd.R_new' (Kd.R_new' (Kd.R_new' ho0 (Kd.R_lt (rr (Kd.R_mono (Kd.R_far (p := ⟨gb265, 1, none⟩) (Kd.R_far (p := ⟨gb265, 0, none⟩) (Kd.R_types HO255.out BK265.out (by decide)) (fun _ hk => hk.2) (.string t261)) (fun _ hk => hk.2) (.slice Ao81 t262.length co81)) (fun _ h_ => h_.1))))) (Kd.R_lt (rr (Kd.R_mono (Kd.R_far (p := ⟨gb265, 1, none⟩) (Kd.R_far (p := ⟨gb265, 0, none⟩) (Kd.R_types HO259.out BK265.out (by decide)) (fun _ hk => hk.2) (.string t261)) (fun _ hk => hk.2) (.slice Ao81 t262.length co81)) (fun _ h_ => h_.1))))) (Kd.R_lt (rr (Kd.R_mono (Kd.R_far (p := ⟨gb265, 1, none⟩) (Kd.R_far (p := ⟨gb265, 0, none⟩) (Kd.R_types HO264.out BK265.out (by decide)) (fun _ hk => hk.2) (.string t261)) (fun _ hk => hk.2) (.slice Ao81 t262.length co81)) (fun _ h_ => h_.1))))) (below_size bq)); have n4 := bb (bk BK248) hb; have n5 := bb (bk BK249) hb; have n6 := bb (o := .cells #[.string t261, .slice Ao81 t262.length co81] 39 (0, 0)) (bp BK265) hb; have n7 := bs hb; clear HO255 HO259 HO264 BK248 BK249 BK265 HB; have HO255 := n0; have HO259 := n1; have HO264 := n2; have HO269 := n3; have BK248 := n4; have BK249 := n5; have BK265 := n6; have HB := n7; clear n0 n1 n2 n3 n4 n5 n6 n7; (try clear hb); (try clear hb2); (try clear hk); (try clear hi); (try clear ho0)) | ((with_reducible refine gate_dst (N := 8) rfl ?_); refine be 8 #[.string (⟨#[]⟩ : ByteArray), .slice none 0 0] 39 ?_; intro gb270 hg w84 hbox hb; have n0 := ra (Kd.R_below (rq HO255) hb); have n1 := ra (Kd.R_below (rq HO259) hb); have n2 := ra (Kd.R_below (rq HO264) hb); have n3 := ra (Kd.R_below (rq HO269) hb); have n4 := bb (bk BK248) hb; have n5 := bb (bk BK249) hb; have n6 := bb (bk BK265) hb; have n7 := bs hb; have n8_ := ra (hbox); have n9_ := bz (w0 := w) hg; have n10_ := bz (w0 := w) hg; have n11_ := bn hg (bk BK248); have n12_ := bm hg (bk BK248); have n13_ := bn hg (bk BK249); have n14_ := bm hg (bk BK249); have n15_ := bn hg (bk BK265); have n16_ := bm hg (bk BK265); clear HO255 HO259 HO264 HO269 BK248 BK249 BK265 HB; have HO255 := n0; have HO259 := n1; have HO264 := n2; have HO269 := n3; have BK248 := n4; have BK249 := n5; have BK265 := n6; have HB := n7; have BK270 := n8_; have GW270 := n9_; have GE270 := n10_; have NB248_270 := n11_; have NB270_248 := n12_; have NB249_270 := n13_; have NB270_249 := n14_; have NB265_270 := n15_; have NB270_265 := n16_; clear n0 n1 n2 n3 n4 n5 n6 n7 n8_ n9_ n10_ n11_ n12_ n13_ n14_ n15_ n16_; clear hb hbox hg; have hnb85 := NB270_248.out; have hnc85 := NB248_270.out; have hnb86 := NB270_249.out; have hnc86 := NB249_270.out; have hnb87 := NB270_265.out; have hnc87 := NB265_270.out; obtain ⟨hcz88_0, hcz88_1, hfz88_0, hfz88_1⟩ := zc2 BK270; obtain ⟨Ao89, co89, eo89⟩ := Kd.R_slice HO269.out; subst eo89; obtain ⟨hcz90_0, hcz90_1, hfz90_0, hfz90_1⟩ := zc2 BK265) | ((with_reducible refine gate_callee (f := 26) rfl ?_); refine gl (some 31) Try.func26 #[.agg #[.string t261, .slice Ao81 t262.length co81], .agg #[.string t266, .slice Ao89 t267.length co89]] ?_; (with_reducible refine (impl_ProbeSmaller.calls k t261 _ _ t262 t266 _ _ t267 t271 _ ?side1 ?side2 ?side3 ?side4 A24.out).mono ?_); (case side1 => refine (Kd.R_reads' (e := 26) (base := w.heap.size) (ok := fun k_ => (((True ∧ some k_ ≠ (.slice Ao72 t253.length co72 : Value).ownBlock) ∧ some k_ ≠ (.slice Ao73 t257.length co73 : Value).ownBlock) ∧ some k_ ≠ (.slice Ao89 t267.length co89 : Value).ownBlock)) (n := t262.length) (c := co81) ?_).2.2; exact (rr (Kd.R_mono (Kd.R_far (p := ⟨gb270, 1, none⟩) (Kd.R_far (p := ⟨gb270, 0, none⟩) (Kd.R_types HO264.out BK270.out (by decide)) (fun _ hk => hk.2) (.string t266)) (fun _ hk => hk.2) (.slice Ao89 t267.length co89)) (fun _ h_ => h_.1)))); (case side2 => exact (Kd.R_reads' HO264.out).2.1); (case side3 => refine (Kd.R_reads' (e := 26) (base := w.heap.size) (ok := fun k_ => (((True ∧ some k_ ≠ (.slice Ao72 t253.length co72 : Value).ownBlock) ∧ some k_ ≠ (.slice Ao73 t257.length co73 : Value).ownBlock) ∧ some k_ ≠ (.slice Ao81 t262.length co81 : Value).ownBlock)) (n := t267.length) (c := co89) ?_).2.2; exact (rr (Kd.R_mono (Kd.R_far (p := ⟨gb270, 1, none⟩) (Kd.R_far (p := ⟨gb270, 0, none⟩) (Kd.R_types HO269.out BK270.out (by decide)) (fun _ hk => hk.2) (.string t266)) (fun _ hk => hk.2) (.slice Ao89 t267.length co89)) (fun _ h_ => h_.1)))); (case side4 => exact (Kd.R_reads' HO269.out).2.1); rintro e w91 ⟨rfl, hb⟩; refine ⟨_, rfl, ?_⟩; have n0 := ra (Kd.R_below (rr (Kd.R_mono (Kd.R_far (p := ⟨gb270, 1, none⟩) (Kd.R_far (p := ⟨gb270, 0, none⟩) (Kd.R_types HO255.out BK270.out (by decide)) (fun _ hk => hk.2) (.string t266)) (fun _ hk => hk.2) (.slice Ao89 t267.length co89)) (fun _ h_ => h_.1))) hb); have n1 := ra (Kd.R_below (rr (Kd.R_mono (Kd.R_far (p := ⟨gb270, 1, none⟩) (Kd.R_far (p := ⟨gb270, 0, none⟩) (Kd.R_types HO259.out BK270.out (by decide)) (fun _ hk => hk.2) (.string t266)) (fun _ hk => hk.2) (.slice Ao89 t267.length co89)) (fun _ h_ => h_.1))) hb); have n2 := ra (Kd.R_below (rr (Kd.R_mono (Kd.R_far (p := ⟨gb270, 1, none⟩) (Kd.R_far (p := ⟨gb270, 0, none⟩) (Kd.R_types HO264.out BK270.out (by decide)) (fun _ hk => hk.2) (.string t266)) (fun _ hk => hk.2) (.slice Ao89 t267.length co89)) (fun _ h_ => h_.1))) hb); have n3 := ra (Kd.R_below (rr (Kd.R_mono (Kd.R_far (p := ⟨gb270, 1, none⟩) (Kd.R_far (p := ⟨gb270, 0, none⟩) (Kd.R_types HO269.out BK270.out (by decide)) (fun _ hk => hk.2) (.string t266)) (fun _ hk => hk.2) (.slice Ao89 t267.length co89)) (fun _ h_ => h_.1))) hb); have n4 := bb (bk BK248) hb; have n5 := bb (bk BK249) hb; have n6 := bb (bk BK265) hb; have n7 := bb (o := .cells #[.string t266, .slice Ao89 t267.length co89] 39 (0, 0)) (bp BK270) hb; have n8_ := bs hb; clear HO255 HO259 HO264 HO269 BK248 BK249 BK265 BK270 HB; have HO255 := n0; have HO259 := n1; have HO264 := n2; have HO269 := n3; have BK248 := n4; have BK249 := n5; have BK265 := n6; have BK270 := n7; have HB := n8_; clear n0 n1 n2 n3 n4 n5 n6 n7 n8_; (try clear hb); (try clear hb2); (try clear hk); (try clear hi)))
            have n0 := ra (Kd.R_drew HO255.out)
            have n1 := ra (Kd.R_drew HO259.out)
            have n2 := ra (Kd.R_drew HO264.out)
            have n3 := ra (Kd.R_drew HO269.out)
            have n4 := ra (blk_drew BK248.out)
            have n5 := ra (blk_drew BK249.out)
            have n6 := ra (blk_drew BK265.out)
            have n7 := ra (blk_drew BK270.out)
            have n8_ := ra (below_drew1 HB.out)
            clear HO255 HO259 HO264 HO269 BK248 BK249 BK265 BK270 HB
            have HO255 := n0
            have HO259 := n1
            have HO264 := n2
            have HO269 := n3
            have BK248 := n4
            have BK249 := n5
            have BK265 := n6
            have BK270 := n7
            have HB := n8_
            clear n0 n1 n2 n3 n4 n5 n6 n7 n8_
            refine start_ (n := 5) (S := fun w' => w'.cell? ⟨gb265, 0, none⟩ = some (.string t261) ∧ w'.cell? ⟨gb265, 1, none⟩ = some (.slice Ao81 t262.length co81) ∧ w'.cell? ⟨gb248, 0, none⟩ = some (.string a0_0) ∧ w'.cell? ⟨gb248, 1, none⟩ = some (.slice A0_1 l0_1.length c0_1)) (ds := []) (bl 5 0) (by kernel_rfl) rfl rfl ⟨(blk_cell BK265.out 0).trans rfl, (blk_cell BK265.out 1).trans rfl, (blk_cell BK248.out 0).trans rfl, (blk_cell BK248.out 1).trans rfl⟩ (fun hHeld => ?_)
            generalize w91.drew = w92 at HO255 HO259 HO264 HO269 BK248 BK249 BK265 BK270 HB hHeld ⊢
            refine tk 0 35 (bl 5 1) ?_ hHeld
            refine tk 1 36 (bl 5 3) ?_ hHeld
            refine oe 2 37 (bl 5 7) (fun K hK => ?_)
            refine gs Try.func22 #[.agg #[.string a0_0, .slice A0_1 l0_1.length c0_1]] ?_
            with_reducible refine (laws_toProbeTube.calls k a0_0 _ _ l0_1 t272 t273 _ ?side1 ?side2 A56.out).mono ?_
            (case side1 => exact sc HR0_1)
            (case side2 => exact HC0_1.out)
            rintro e w93 ⟨v274, rfl, ho0, hb⟩
            refine ⟨_, rfl, ?_⟩
            have n0 := ra (Kd.R_elder' (rq HO255) (Kd.R_base ho0) hb)
            have n1 := ra (Kd.R_elder' (rq HO259) (Kd.R_base ho0) hb)
            have n2 := ra (Kd.R_elder' (rq HO264) (Kd.R_base ho0) hb)
            have n3 := ra (Kd.R_elder' (rq HO269) (Kd.R_base ho0) hb)
            have n4 := ra (Kd.R_lower (Kd.R_new' (Kd.R_new' (Kd.R_new' (Kd.R_new' ho0 (Kd.R_lt (rq HO255))) (Kd.R_lt (rq HO259))) (Kd.R_lt (rq HO264))) (Kd.R_lt (rq HO269))) (below_size bq))
            have n5 := bb (bk BK248) hb
            have n6 := bb (bk BK249) hb
            have n7 := bb (bk BK265) hb
            have n8_ := bb (bk BK270) hb
            have n9_ := bs hb
            clear HO255 HO259 HO264 HO269 BK248 BK249 BK265 BK270 HB
            have HO255 := n0
            have HO259 := n1
            have HO264 := n2
            have HO269 := n3
            have HO275 := n4
            have BK248 := n5
            have BK249 := n6
            have BK265 := n7
            have BK270 := n8_
            have HB := n9_
            clear n0 n1 n2 n3 n4 n5 n6 n7 n8_ n9_
            (try clear hb)
            (try clear hb2)
            (try clear hk)
            (try clear hi)
            (try clear ho0)
            obtain ⟨Ao94, co94, eo94⟩ := Kd.R_slice HO275.out
            (first | subst eo94 | (injection eo94 with f1_ f2_ f3_; have f4_ := f1_.symm; have f5_ := f3_.symm; clear f1_ f2_ f3_; subst f4_; subst f5_))
            refine hK.out _ _ ⟨(blk_cell BK265.out 0).trans rfl, (blk_cell BK265.out 1).trans rfl, (blk_cell BK248.out 0).trans rfl, (blk_cell BK248.out 1).trans rfl⟩ (fun hHeld => ?_)
            clear hK K
            refine nm 37 ?_
            refine oe 3 38 (bl 5 15) (fun K hK => ?_)
            refine gs Try.func24 #[.agg #[.string t261, .slice Ao81 t262.length co81], .agg #[.string t272, .slice Ao94 t273.length co94]] ?_
            with_reducible refine (laws_eqProbeTube.calls k t261 _ _ t262 t272 _ _ t273 true _ ?side1 ?side2 ?side3 ?side4 A57.out).mono ?_
            (case side1 => exact sr HO264)
            (case side2 => exact (Kd.R_reads' HO264.out).2.1)
            (case side3 => exact sr HO275)
            (case side4 => exact (Kd.R_reads' HO275.out).2.1)
            rintro e w95 ⟨rfl, hb⟩
            refine ⟨_, rfl, ?_⟩
            have n0 := ra (Kd.R_below (rq HO255) hb)
            have n1 := ra (Kd.R_below (rq HO259) hb)
            have n2 := ra (Kd.R_below (rq HO264) hb)
            have n3 := ra (Kd.R_below (rq HO269) hb)
            have n4 := ra (Kd.R_below (rq HO275) hb)
            have n5 := bb (bk BK248) hb
            have n6 := bb (bk BK249) hb
            have n7 := bb (bk BK265) hb
            have n8_ := bb (bk BK270) hb
            have n9_ := bs hb
            clear HO255 HO259 HO264 HO269 HO275 BK248 BK249 BK265 BK270 HB
            have HO255 := n0
            have HO259 := n1
            have HO264 := n2
            have HO269 := n3
            have HO275 := n4
            have BK248 := n5
            have BK249 := n6
            have BK265 := n7
            have BK270 := n8_
            have HB := n9_
            clear n0 n1 n2 n3 n4 n5 n6 n7 n8_ n9_
            (try clear hb)
            (try clear hb2)
            (try clear hk)
            (try clear hi)
            refine hK.out _ _ ⟨(blk_cell BK265.out 0).trans rfl, (blk_cell BK265.out 1).trans rfl, (blk_cell BK248.out 0).trans rfl, (blk_cell BK248.out 1).trans rfl⟩ (fun hHeld => ?_)
            clear hK K
            refine nm 38 ?_
            refine pu 4 39 (bl 5 31) ?_
            refine done_ (by kernel_rfl) ?_
            try go_wp2
            have n0 := ra (Kd.R_drew HO255.out)
            have n1 := ra (Kd.R_drew HO259.out)
            have n2 := ra (Kd.R_drew HO264.out)
            have n3 := ra (Kd.R_drew HO269.out)
            have n4 := ra (Kd.R_drew HO275.out)
            have n5 := ra (blk_drew BK248.out)
            have n6 := ra (blk_drew BK249.out)
            have n7 := ra (blk_drew BK265.out)
            have n8_ := ra (blk_drew BK270.out)
            have n9_ := ra (below_drew1 HB.out)
            clear HO255 HO259 HO264 HO269 HO275 BK248 BK249 BK265 BK270 HB
            have HO255 := n0
            have HO259 := n1
            have HO264 := n2
            have HO269 := n3
            have HO275 := n4
            have BK248 := n5
            have BK249 := n6
            have BK265 := n7
            have BK270 := n8_
            have HB := n9_
            clear n0 n1 n2 n3 n4 n5 n6 n7 n8_ n9_
            refine start_ (n := 5) (S := fun w' => w'.cell? ⟨gb270, 0, none⟩ = some (.string t266) ∧ w'.cell? ⟨gb270, 1, none⟩ = some (.slice Ao89 t267.length co89) ∧ w'.cell? ⟨gb249, 0, none⟩ = some (.string a1_0) ∧ w'.cell? ⟨gb249, 1, none⟩ = some (.slice A1_1 l1_1.length c1_1)) (ds := []) (bl 5 0) (by kernel_rfl) rfl rfl ⟨(blk_cell BK270.out 0).trans rfl, (blk_cell BK270.out 1).trans rfl, (blk_cell BK249.out 0).trans rfl, (blk_cell BK249.out 1).trans rfl⟩ (fun hHeld => ?_)
            generalize w95.drew = w96 at HO255 HO259 HO264 HO269 HO275 BK248 BK249 BK265 BK270 HB hHeld ⊢
            refine tk 0 40 (bl 5 1) ?_ hHeld
            refine tk 1 41 (bl 5 3) ?_ hHeld
            refine oe 2 42 (bl 5 7) (fun K hK => ?_)
            refine gs Try.func22 #[.agg #[.string a1_0, .slice A1_1 l1_1.length c1_1]] ?_
            with_reducible refine (laws_toProbeTube.calls k a1_0 _ _ l1_1 t277 t278 _ ?side1 ?side2 A59.out).mono ?_
            (case side1 => exact sc HR1_1)
            (case side2 => exact HC1_1.out)
            rintro e w97 ⟨v279, rfl, ho0, hb⟩
            refine ⟨_, rfl, ?_⟩
            have n0 := ra (Kd.R_elder' (rq HO255) (Kd.R_base ho0) hb)
            have n1 := ra (Kd.R_elder' (rq HO259) (Kd.R_base ho0) hb)
            have n2 := ra (Kd.R_elder' (rq HO264) (Kd.R_base ho0) hb)
            have n3 := ra (Kd.R_elder' (rq HO269) (Kd.R_base ho0) hb)
            have n4 := ra (Kd.R_elder' (rq HO275) (Kd.R_base ho0) hb)
            have n5 := ra (Kd.R_lower (Kd.R_new' (Kd.R_new' (Kd.R_new' (Kd.R_new' (Kd.R_new' ho0 (Kd.R_lt (rq HO255))) (Kd.R_lt (rq HO259))) (Kd.R_lt (rq HO264))) (Kd.R_lt (rq HO269))) (Kd.R_lt (rq HO275))) (below_size bq))
            have n6 := bb (bk BK248) hb
            have n7 := bb (bk BK249) hb
            have n8_ := bb (bk BK265) hb
            have n9_ := bb (bk BK270) hb
            have n10_ := bs hb
            clear HO255 HO259 HO264 HO269 HO275 BK248 BK249 BK265 BK270 HB
            have HO255 := n0
            have HO259 := n1
            have HO264 := n2
            have HO269 := n3
            have HO275 := n4
            have HO280 := n5
            have BK248 := n6
            have BK249 := n7
            have BK265 := n8_
            have BK270 := n9_
            have HB := n10_
            clear n0 n1 n2 n3 n4 n5 n6 n7 n8_ n9_ n10_
            (try clear hb)
            (try clear hb2)
            (try clear hk)
            (try clear hi)
            (try clear ho0)
            obtain ⟨Ao98, co98, eo98⟩ := Kd.R_slice HO280.out
            (first | subst eo98 | (injection eo98 with f1_ f2_ f3_; have f4_ := f1_.symm; have f5_ := f3_.symm; clear f1_ f2_ f3_; subst f4_; subst f5_))
            refine hK.out _ _ ⟨(blk_cell BK270.out 0).trans rfl, (blk_cell BK270.out 1).trans rfl, (blk_cell BK249.out 0).trans rfl, (blk_cell BK249.out 1).trans rfl⟩ (fun hHeld => ?_)
            clear hK K
            refine nm 42 ?_
            refine oe 3 43 (bl 5 15) (fun K hK => ?_)
            refine gs Try.func24 #[.agg #[.string t266, .slice Ao89 t267.length co89], .agg #[.string t277, .slice Ao98 t278.length co98]] ?_
            with_reducible refine (laws_eqProbeTube.calls k t266 _ _ t267 t277 _ _ t278 true _ ?side1 ?side2 ?side3 ?side4 A60.out).mono ?_
            (case side1 => exact sr HO269)
            (case side2 => exact (Kd.R_reads' HO269.out).2.1)
            (case side3 => exact sr HO280)
            (case side4 => exact (Kd.R_reads' HO280.out).2.1)
            rintro e w99 ⟨rfl, hb⟩
            refine ⟨_, rfl, ?_⟩
            have n0 := ra (Kd.R_below (rq HO255) hb)
            have n1 := ra (Kd.R_below (rq HO259) hb)
            have n2 := ra (Kd.R_below (rq HO264) hb)
            have n3 := ra (Kd.R_below (rq HO269) hb)
            have n4 := ra (Kd.R_below (rq HO275) hb)
            have n5 := ra (Kd.R_below (rq HO280) hb)
            have n6 := bb (bk BK248) hb
            have n7 := bb (bk BK249) hb
            have n8_ := bb (bk BK265) hb
            have n9_ := bb (bk BK270) hb
            have n10_ := bs hb
            clear HO255 HO259 HO264 HO269 HO275 HO280 BK248 BK249 BK265 BK270 HB
            have HO255 := n0
            have HO259 := n1
            have HO264 := n2
            have HO269 := n3
            have HO275 := n4
            have HO280 := n5
            have BK248 := n6
            have BK249 := n7
            have BK265 := n8_
            have BK270 := n9_
            have HB := n10_
            clear n0 n1 n2 n3 n4 n5 n6 n7 n8_ n9_ n10_
            (try clear hb)
            (try clear hb2)
            (try clear hk)
            (try clear hi)
            refine hK.out _ _ ⟨(blk_cell BK270.out 0).trans rfl, (blk_cell BK270.out 1).trans rfl, (blk_cell BK249.out 0).trans rfl, (blk_cell BK249.out 1).trans rfl⟩ (fun hHeld => ?_)
            clear hK K
            refine nm 43 ?_
            refine pu 4 44 (bl 5 31) ?_
            refine done_ (by kernel_rfl) ?_
            try go_wp2
            go_ret
            exact ⟨re, bq⟩
          · replace c61 := Bool.eq_false_iff.mpr c61
            subst c61
            have H1 : (some false) = some r := by rw [if_neg (show ¬ (false = true) by decide)] at H; exact H
            clear H
            have H := H1
            clear H1
            obtain rfl := Option.some.inj H
            go_enter Try.func7, Try.ntmps7
            try go_wp2_with (first | ((with_reducible refine gate_dst (N := 2) rfl ?_); refine be 2 #[.string a0_0, .slice A0_1 l0_1.length c0_1] 34 ?_; intro gb248 hg w100 hbox hb; have n0 := bs hb; have n1 := ra (hbox); have n2 := bz (w0 := w) hg; have n3 := bz (w0 := w) hg; clear HB; have HB := n0; have BK248 := n1; have GW248 := n2; have GE248 := n3; clear n0 n1 n2 n3; clear hb hbox hg) | ((with_reducible refine gate_dst (N := 3) rfl ?_); refine be 3 #[.string a1_0, .slice A1_1 l1_1.length c1_1] 34 ?_; intro gb249 hg w101 hbox hb; have n0 := bb (bk BK248) hb; have n1 := bs hb; have n2 := ra (hbox); have n3 := bz (w0 := w) hg; have n4 := bz (w0 := w) hg; have n5 := bn hg (bk BK248); have n6 := bm hg (bk BK248); clear BK248 HB; have BK248 := n0; have HB := n1; have BK249 := n2; have GW249 := n3; have GE249 := n4; have NB248_249 := n5; have NB249_248 := n6; clear n0 n1 n2 n3 n4 n5 n6; clear hb hbox hg; have hnb102 := NB248_249.out; have hnc102 := NB249_248.out; obtain ⟨hcz103_0, hcz103_1, hfz103_0, hfz103_1⟩ := zc2 BK248) | ((with_reducible refine gate_callee (f := 20) rfl ?_); refine gl (some 12) Try.func20 #[.agg #[.string a0_0, .slice A0_1 l0_1.length c0_1], .int .i64 1048576] ?_; (with_reducible refine (laws_szProbeTube.calls a0_0 _ _ l0_1 1048576 t250 _ ?side1 ?side2 A3.out).mono ?_); (case side1 => exact sc HR0_1); (case side2 => exact HC0_1.out); rintro e w104 ⟨rfl, hb⟩; refine ⟨_, rfl, ?_⟩; have n0 := bb (bk BK248) hb; have n1 := bb (bk BK249) hb; have n2 := bs hb; clear BK248 BK249 HB; have BK248 := n0; have BK249 := n1; have HB := n2; clear n0 n1 n2; (try clear hb); (try clear hb2); (try clear hk); (try clear hi); obtain ⟨hcz105_0, hcz105_1, hfz105_0, hfz105_1⟩ := zc2 BK249) | ((with_reducible refine gate_callee (f := 20) rfl ?_); refine gl (some 17) Try.func20 #[.agg #[.string a1_0, .slice A1_1 l1_1.length c1_1], .int .i64 t250] ?_; (with_reducible refine (laws_szProbeTube.calls a1_0 _ _ l1_1 t250 t251 _ ?side1 ?side2 A10.out).mono ?_); (case side1 => exact sc HR1_1); (case side2 => exact HC1_1.out); rintro e w106 ⟨rfl, hb⟩; refine ⟨_, rfl, ?_⟩; have n0 := bb (bk BK248) hb; have n1 := bb (bk BK249) hb; have n2 := bs hb; clear BK248 BK249 HB; have BK248 := n0; have BK249 := n1; have HB := n2; clear n0 n1 n2; (try clear hb); (try clear hb2); (try clear hk); (try clear hi)))
            have n0 := ra (blk_drew BK248.out)
            have n1 := ra (blk_drew BK249.out)
            have n2 := ra (below_drew1 HB.out)
            clear BK248 BK249 HB
            have BK248 := n0
            have BK249 := n1
            have HB := n2
            clear n0 n1 n2
            refine start_ (n := 6) (S := fun w' => w'.cell? ⟨gb248, 0, none⟩ = some (.string a0_0) ∧ w'.cell? ⟨gb248, 1, none⟩ = some (.slice A0_1 l0_1.length c0_1) ∧ w'.cell? ⟨gb249, 0, none⟩ = some (.string a1_0) ∧ w'.cell? ⟨gb249, 1, none⟩ = some (.slice A1_1 l1_1.length c1_1)) (ds := []) (bl 6 0) (by kernel_rfl) rfl rfl ⟨(blk_cell BK248.out 0).trans rfl, (blk_cell BK248.out 1).trans rfl, (blk_cell BK249.out 0).trans rfl, (blk_cell BK249.out 1).trans rfl⟩ (fun hHeld => ?_)
            generalize w106.drew = w107 at BK248 BK249 HB hHeld ⊢
            refine tk 0 20 (bl 6 1) ?_ hHeld
            refine tk 2 22 (bl 6 5) ?_ hHeld
            refine oe 1 21 (bl 6 7) (fun K hK => ?_)
            refine gs Try.func22 #[.agg #[.string a0_0, .slice A0_1 l0_1.length c0_1]] ?_
            with_reducible refine (laws_toProbeTube.calls k a0_0 _ _ l0_1 t252 t253 _ ?side1 ?side2 A19.out).mono ?_
            (case side1 => exact sc HR0_1)
            (case side2 => exact HC0_1.out)
            rintro e w108 ⟨v254, rfl, ho0, hb⟩
            refine ⟨_, rfl, ?_⟩
            have n0 := ra (Kd.R_lower ho0 (below_size bq))
            have n1 := bb (bk BK248) hb
            have n2 := bb (bk BK249) hb
            have n3 := bs hb
            clear BK248 BK249 HB
            have HO255 := n0
            have BK248 := n1
            have BK249 := n2
            have HB := n3
            clear n0 n1 n2 n3
            (try clear hb)
            (try clear hb2)
            (try clear hk)
            (try clear hi)
            (try clear ho0)
            refine hK.out _ _ ⟨(blk_cell BK248.out 0).trans rfl, (blk_cell BK248.out 1).trans rfl, (blk_cell BK249.out 0).trans rfl, (blk_cell BK249.out 1).trans rfl⟩ (fun hHeld => ?_)
            clear hK K
            refine nm 21 ?_
            refine oe 3 23 (bl 6 15) (fun K hK => ?_)
            refine gs Try.func22 #[.agg #[.string a1_0, .slice A1_1 l1_1.length c1_1]] ?_
            with_reducible refine (laws_toProbeTube.calls k a1_0 _ _ l1_1 t256 t257 _ ?side1 ?side2 A20.out).mono ?_
            (case side1 => exact sc HR1_1)
            (case side2 => exact HC1_1.out)
            rintro e w109 ⟨v258, rfl, ho0, hb⟩
            refine ⟨_, rfl, ?_⟩
            have n0 := ra (Kd.R_elder' (rq HO255) (Kd.R_base ho0) hb)
            have n1 := ra (Kd.R_lower (Kd.R_new' ho0 (Kd.R_lt (rq HO255))) (below_size bq))
            have n2 := bb (bk BK248) hb
            have n3 := bb (bk BK249) hb
            have n4 := bs hb
            clear HO255 BK248 BK249 HB
            have HO255 := n0
            have HO259 := n1
            have BK248 := n2
            have BK249 := n3
            have HB := n4
            clear n0 n1 n2 n3 n4
            (try clear hb)
            (try clear hb2)
            (try clear hk)
            (try clear hi)
            (try clear ho0)
            obtain ⟨Ao110, co110, eo110⟩ := Kd.R_slice HO255.out
            (first | subst eo110 | (injection eo110 with f1_ f2_ f3_; have f4_ := f1_.symm; have f5_ := f3_.symm; clear f1_ f2_ f3_; subst f4_; subst f5_))
            obtain ⟨Ao111, co111, eo111⟩ := Kd.R_slice HO259.out
            (first | subst eo111 | (injection eo111 with f1_ f2_ f3_; have f4_ := f1_.symm; have f5_ := f3_.symm; clear f1_ f2_ f3_; subst f4_; subst f5_))
            refine hK.out _ _ ⟨(blk_cell BK248.out 0).trans rfl, (blk_cell BK248.out 1).trans rfl, (blk_cell BK249.out 0).trans rfl, (blk_cell BK249.out 1).trans rfl⟩ (fun hHeld => ?_)
            clear hK K
            refine nm 23 ?_
            refine oe 4 24 (bl 6 31) (fun K hK => ?_)
            refine gs Try.func25 #[.agg #[.string t252, .slice Ao110 t253.length co110], .agg #[.string t256, .slice Ao111 t257.length co111]] ?_
            with_reducible refine (spec_ProbeSmaller.calls k t252 _ _ t253 t256 _ _ t257 t260 _ ?side1 ?side2 ?side3 ?side4 A21.out).mono ?_
            (case side1 => exact sr HO255)
            (case side2 => exact (Kd.R_reads' HO255.out).2.1)
            (case side3 => exact sr HO259)
            (case side4 => exact (Kd.R_reads' HO259.out).2.1)
            rintro e w112 ⟨rfl, hb⟩
            refine ⟨_, rfl, ?_⟩
            have n0 := ra (Kd.R_below (rq HO255) hb)
            have n1 := ra (Kd.R_below (rq HO259) hb)
            have n2 := bb (bk BK248) hb
            have n3 := bb (bk BK249) hb
            have n4 := bs hb
            clear HO255 HO259 BK248 BK249 HB
            have HO255 := n0
            have HO259 := n1
            have BK248 := n2
            have BK249 := n3
            have HB := n4
            clear n0 n1 n2 n3 n4
            (try clear hb)
            (try clear hb2)
            (try clear hk)
            (try clear hi)
            refine hK.out _ _ ⟨(blk_cell BK248.out 0).trans rfl, (blk_cell BK248.out 1).trans rfl, (blk_cell BK249.out 0).trans rfl, (blk_cell BK249.out 1).trans rfl⟩ (fun hHeld => ?_)
            clear hK K
            refine nm 24 ?_
            refine pu 5 6 (bl 6 63) ?_
            refine done_ (by kernel_rfl) ?_
            obtain ⟨hcz113_0, hcz113_1, hfz113_0, hfz113_1⟩ := zc2 BK248
            try go_wp2_with (first | ((with_reducible refine gate_callee (f := 22) rfl ?_); refine gl (some 26) Try.func22 #[.agg #[.string a0_0, .slice A0_1 l0_1.length c0_1]] ?_; (with_reducible refine (laws_toProbeTube.calls k a0_0 _ _ l0_1 t261 t262 _ ?side1 ?side2 A22.out).mono ?_); (case side1 => exact sc HR0_1); (case side2 => exact HC0_1.out); rintro e w114 ⟨v263, rfl, ho0, hb⟩; refine ⟨_, rfl, ?_⟩; have n0 := ra (Kd.R_elder' (rq HO255) (Kd.R_base ho0) hb); have n1 := ra (Kd.R_elder' (rq HO259) (Kd.R_base ho0) hb); have n2 := ra (Kd.R_lower (Kd.R_new' (Kd.R_new' ho0 (Kd.R_lt (rq HO255))) (Kd.R_lt (rq HO259))) (below_size bq)); have n3 := bb (bk BK248) hb; have n4 := bb (bk BK249) hb; have n5 := bs hb; clear HO255 HO259 BK248 BK249 HB; have HO255 := n0; have HO259 := n1; have HO264 := n2; have BK248 := n3; have BK249 := n4; have HB := n5; clear n0 n1 n2 n3 n4 n5; (try clear hb); (try clear hb2); (try clear hk); (try clear hi); (try clear ho0)) | ((with_reducible refine gate_dst (N := 7) rfl ?_); refine be 7 #[.string (⟨#[]⟩ : ByteArray), .slice none 0 0] 39 ?_; intro gb265 hg w115 hbox hb; have n0 := ra (Kd.R_below (rq HO255) hb); have n1 := ra (Kd.R_below (rq HO259) hb); have n2 := ra (Kd.R_below (rq HO264) hb); have n3 := bb (bk BK248) hb; have n4 := bb (bk BK249) hb; have n5 := bs hb; have n6 := ra (hbox); have n7 := bz (w0 := w) hg; have n8_ := bz (w0 := w) hg; have n9_ := bn hg (bk BK248); have n10_ := bm hg (bk BK248); have n11_ := bn hg (bk BK249); have n12_ := bm hg (bk BK249); clear HO255 HO259 HO264 BK248 BK249 HB; have HO255 := n0; have HO259 := n1; have HO264 := n2; have BK248 := n3; have BK249 := n4; have HB := n5; have BK265 := n6; have GW265 := n7; have GE265 := n8_; have NB248_265 := n9_; have NB265_248 := n10_; have NB249_265 := n11_; have NB265_249 := n12_; clear n0 n1 n2 n3 n4 n5 n6 n7 n8_ n9_ n10_ n11_ n12_; clear hb hbox hg; have hnb116 := NB265_248.out; have hnc116 := NB248_265.out; have hnb117 := NB265_249.out; have hnc117 := NB249_265.out; obtain ⟨hcz118_0, hcz118_1, hfz118_0, hfz118_1⟩ := zc2 BK265; obtain ⟨Ao119, co119, eo119⟩ := Kd.R_slice HO264.out; subst eo119; obtain ⟨hcz120_0, hcz120_1, hfz120_0, hfz120_1⟩ := zc2 BK249) | ((with_reducible refine gate_callee (f := 22) rfl ?_); refine gl (some 28) Try.func22 #[.agg #[.string a1_0, .slice A1_1 l1_1.length c1_1]] ?_; (with_reducible refine (laws_toProbeTube.calls k a1_0 _ _ l1_1 t266 t267 _ ?side1 ?side2 A23.out).mono ?_); (case side1 => exact Kd.C_below HR1_1.out bq); (case side2 => exact HC1_1.out); rintro e w121 ⟨v268, rfl, ho0, hb⟩; refine ⟨_, rfl, ?_⟩; have n0 := ra (Kd.R_elder' (rr (Kd.R_mono (Kd.R_far (p := ⟨gb265, 1, none⟩) (Kd.R_far (p := ⟨gb265, 0, none⟩) (Kd.R_types HO255.out BK265.out (by decide)) (fun _ hk => hk.2) (.string t261)) (fun _ hk => hk.2) (.slice Ao119 t262.length co119)) (fun _ h_ => h_.1))) (Kd.R_base ho0) hb); have n1 := ra (Kd.R_elder' (rr (Kd.R_mono (Kd.R_far (p := ⟨gb265, 1, none⟩) (Kd.R_far (p := ⟨gb265, 0, none⟩) (Kd.R_types HO259.out BK265.out (by decide)) (fun _ hk => hk.2) (.string t261)) (fun _ hk => hk.2) (.slice Ao119 t262.length co119)) (fun _ h_ => h_.1))) (Kd.R_base ho0) hb); have n2 := ra (Kd.R_elder' (rr (Kd.R_mono (Kd.R_far (p := ⟨gb265, 1, none⟩) (Kd.R_far (p := ⟨gb265, 0, none⟩) (Kd.R_types HO264.out BK265.out (by decide)) (fun _ hk => hk.2) (.string t261)) (fun _ hk => hk.2) (.slice Ao119 t262.length co119)) (fun _ h_ => h_.1))) (Kd.R_base ho0) hb); have n3 := ra (Kd.R_lower (Kd.R_new' (Kd.R_new' (Kd.R_new' ho0 (Kd.R_lt (rr (Kd.R_mono (Kd.R_far (p := ⟨gb265, 1, none⟩) (Kd.R_far (p := ⟨gb265, 0, none⟩) (Kd.R_types HO255.out BK265.out (by decide)) (fun _ hk => hk.2) (.string t261)) (fun _ hk => hk.2) (.slice Ao119 t262.length co119)) (fun _ h_ => h_.1))))) (Kd.R_lt (rr (Kd.R_mono (Kd.R_far (p := ⟨gb265, 1, none⟩) (Kd.R_far (p := ⟨gb265, 0, none⟩) (Kd.R_types HO259.out BK265.out (by decide)) (fun _ hk => hk.2) (.string t261)) (fun _ hk => hk.2) (.slice Ao119 t262.length co119)) (fun _ h_ => h_.1))))) (Kd.R_lt (rr (Kd.R_mono (Kd.R_far (p := ⟨gb265, 1, none⟩) (Kd.R_far (p := ⟨gb265, 0, none⟩) (Kd.R_types HO264.out BK265.out (by decide)) (fun _ hk => hk.2) (.string t261)) (fun _ hk => hk.2) (.slice Ao119 t262.length co119)) (fun _ h_ => h_.1))))) (below_size bq)); have n4 := bb (bk BK248) hb; have n5 := bb (bk BK249) hb; have n6 := bb (o := .cells #[.string t261, .slice Ao119 t262.length co119] 39 (0, 0)) (bp BK265) hb; have n7 := bs hb; clear HO255 HO259 HO264 BK248 BK249 BK265 HB; have HO255 := n0; have HO259 := n1; have HO264 := n2; have HO269 := n3; have BK248 := n4; have BK249 := n5; have BK265 := n6; have HB := n7; clear n0 n1 n2 n3 n4 n5 n6 n7; (try clear hb); (try clear hb2); (try clear hk); (try clear hi); (try clear ho0)) | ((with_reducible refine gate_dst (N := 8) rfl ?_); refine be 8 #[.string (⟨#[]⟩ : ByteArray), .slice none 0 0] 39 ?_; intro gb270 hg w122 hbox hb; have n0 := ra (Kd.R_below (rq HO255) hb); have n1 := ra (Kd.R_below (rq HO259) hb); have n2 := ra (Kd.R_below (rq HO264) hb); have n3 := ra (Kd.R_below (rq HO269) hb); have n4 := bb (bk BK248) hb; have n5 := bb (bk BK249) hb; have n6 := bb (bk BK265) hb; have n7 := bs hb; have n8_ := ra (hbox); have n9_ := bz (w0 := w) hg; have n10_ := bz (w0 := w) hg; have n11_ := bn hg (bk BK248); have n12_ := bm hg (bk BK248); have n13_ := bn hg (bk BK249); have n14_ := bm hg (bk BK249); have n15_ := bn hg (bk BK265); have n16_ := bm hg (bk BK265); clear HO255 HO259 HO264 HO269 BK248 BK249 BK265 HB; have HO255 := n0; have HO259 := n1; have HO264 := n2; have HO269 := n3; have BK248 := n4; have BK249 := n5; have BK265 := n6; have HB := n7; have BK270 := n8_; have GW270 := n9_; have GE270 := n10_; have NB248_270 := n11_; have NB270_248 := n12_; have NB249_270 := n13_; have NB270_249 := n14_; have NB265_270 := n15_; have NB270_265 := n16_; clear n0 n1 n2 n3 n4 n5 n6 n7 n8_ n9_ n10_ n11_ n12_ n13_ n14_ n15_ n16_; clear hb hbox hg; have hnb123 := NB270_248.out; have hnc123 := NB248_270.out; have hnb124 := NB270_249.out; have hnc124 := NB249_270.out; have hnb125 := NB270_265.out; have hnc125 := NB265_270.out; obtain ⟨hcz126_0, hcz126_1, hfz126_0, hfz126_1⟩ := zc2 BK270; obtain ⟨Ao127, co127, eo127⟩ := Kd.R_slice HO269.out; subst eo127; obtain ⟨hcz128_0, hcz128_1, hfz128_0, hfz128_1⟩ := zc2 BK265) | ((with_reducible refine gate_callee (f := 26) rfl ?_); refine gl (some 31) Try.func26 #[.agg #[.string t261, .slice Ao119 t262.length co119], .agg #[.string t266, .slice Ao127 t267.length co127]] ?_; (with_reducible refine (impl_ProbeSmaller.calls k t261 _ _ t262 t266 _ _ t267 t271 _ ?side1 ?side2 ?side3 ?side4 A24.out).mono ?_); (case side1 => refine (Kd.R_reads' (e := 26) (base := w.heap.size) (ok := fun k_ => (((True ∧ some k_ ≠ (.slice Ao110 t253.length co110 : Value).ownBlock) ∧ some k_ ≠ (.slice Ao111 t257.length co111 : Value).ownBlock) ∧ some k_ ≠ (.slice Ao127 t267.length co127 : Value).ownBlock)) (n := t262.length) (c := co119) ?_).2.2; exact (rr (Kd.R_mono (Kd.R_far (p := ⟨gb270, 1, none⟩) (Kd.R_far (p := ⟨gb270, 0, none⟩) (Kd.R_types HO264.out BK270.out (by decide)) (fun _ hk => hk.2) (.string t266)) (fun _ hk => hk.2) (.slice Ao127 t267.length co127)) (fun _ h_ => h_.1)))); (case side2 => exact (Kd.R_reads' HO264.out).2.1); (case side3 => refine (Kd.R_reads' (e := 26) (base := w.heap.size) (ok := fun k_ => (((True ∧ some k_ ≠ (.slice Ao110 t253.length co110 : Value).ownBlock) ∧ some k_ ≠ (.slice Ao111 t257.length co111 : Value).ownBlock) ∧ some k_ ≠ (.slice Ao119 t262.length co119 : Value).ownBlock)) (n := t267.length) (c := co127) ?_).2.2; exact (rr (Kd.R_mono (Kd.R_far (p := ⟨gb270, 1, none⟩) (Kd.R_far (p := ⟨gb270, 0, none⟩) (Kd.R_types HO269.out BK270.out (by decide)) (fun _ hk => hk.2) (.string t266)) (fun _ hk => hk.2) (.slice Ao127 t267.length co127)) (fun _ h_ => h_.1)))); (case side4 => exact (Kd.R_reads' HO269.out).2.1); rintro e w129 ⟨rfl, hb⟩; refine ⟨_, rfl, ?_⟩; have n0 := ra (Kd.R_below (rr (Kd.R_mono (Kd.R_far (p := ⟨gb270, 1, none⟩) (Kd.R_far (p := ⟨gb270, 0, none⟩) (Kd.R_types HO255.out BK270.out (by decide)) (fun _ hk => hk.2) (.string t266)) (fun _ hk => hk.2) (.slice Ao127 t267.length co127)) (fun _ h_ => h_.1))) hb); have n1 := ra (Kd.R_below (rr (Kd.R_mono (Kd.R_far (p := ⟨gb270, 1, none⟩) (Kd.R_far (p := ⟨gb270, 0, none⟩) (Kd.R_types HO259.out BK270.out (by decide)) (fun _ hk => hk.2) (.string t266)) (fun _ hk => hk.2) (.slice Ao127 t267.length co127)) (fun _ h_ => h_.1))) hb); have n2 := ra (Kd.R_below (rr (Kd.R_mono (Kd.R_far (p := ⟨gb270, 1, none⟩) (Kd.R_far (p := ⟨gb270, 0, none⟩) (Kd.R_types HO264.out BK270.out (by decide)) (fun _ hk => hk.2) (.string t266)) (fun _ hk => hk.2) (.slice Ao127 t267.length co127)) (fun _ h_ => h_.1))) hb); have n3 := ra (Kd.R_below (rr (Kd.R_mono (Kd.R_far (p := ⟨gb270, 1, none⟩) (Kd.R_far (p := ⟨gb270, 0, none⟩) (Kd.R_types HO269.out BK270.out (by decide)) (fun _ hk => hk.2) (.string t266)) (fun _ hk => hk.2) (.slice Ao127 t267.length co127)) (fun _ h_ => h_.1))) hb); have n4 := bb (bk BK248) hb; have n5 := bb (bk BK249) hb; have n6 := bb (bk BK265) hb; have n7 := bb (o := .cells #[.string t266, .slice Ao127 t267.length co127] 39 (0, 0)) (bp BK270) hb; have n8_ := bs hb; clear HO255 HO259 HO264 HO269 BK248 BK249 BK265 BK270 HB; have HO255 := n0; have HO259 := n1; have HO264 := n2; have HO269 := n3; have BK248 := n4; have BK249 := n5; have BK265 := n6; have BK270 := n7; have HB := n8_; clear n0 n1 n2 n3 n4 n5 n6 n7 n8_; (try clear hb); (try clear hb2); (try clear hk); (try clear hi)))
            have n0 := ra (Kd.R_drew HO255.out)
            have n1 := ra (Kd.R_drew HO259.out)
            have n2 := ra (Kd.R_drew HO264.out)
            have n3 := ra (Kd.R_drew HO269.out)
            have n4 := ra (blk_drew BK248.out)
            have n5 := ra (blk_drew BK249.out)
            have n6 := ra (blk_drew BK265.out)
            have n7 := ra (blk_drew BK270.out)
            have n8_ := ra (below_drew1 HB.out)
            clear HO255 HO259 HO264 HO269 BK248 BK249 BK265 BK270 HB
            have HO255 := n0
            have HO259 := n1
            have HO264 := n2
            have HO269 := n3
            have BK248 := n4
            have BK249 := n5
            have BK265 := n6
            have BK270 := n7
            have HB := n8_
            clear n0 n1 n2 n3 n4 n5 n6 n7 n8_
            refine start_ (n := 5) (S := fun w' => w'.cell? ⟨gb265, 0, none⟩ = some (.string t261) ∧ w'.cell? ⟨gb265, 1, none⟩ = some (.slice Ao119 t262.length co119) ∧ w'.cell? ⟨gb248, 0, none⟩ = some (.string a0_0) ∧ w'.cell? ⟨gb248, 1, none⟩ = some (.slice A0_1 l0_1.length c0_1)) (ds := []) (bl 5 0) (by kernel_rfl) rfl rfl ⟨(blk_cell BK265.out 0).trans rfl, (blk_cell BK265.out 1).trans rfl, (blk_cell BK248.out 0).trans rfl, (blk_cell BK248.out 1).trans rfl⟩ (fun hHeld => ?_)
            generalize w129.drew = w130 at HO255 HO259 HO264 HO269 BK248 BK249 BK265 BK270 HB hHeld ⊢
            refine tk 0 35 (bl 5 1) ?_ hHeld
            refine tk 1 36 (bl 5 3) ?_ hHeld
            refine oe 2 37 (bl 5 7) (fun K hK => ?_)
            refine gs Try.func22 #[.agg #[.string a0_0, .slice A0_1 l0_1.length c0_1]] ?_
            with_reducible refine (laws_toProbeTube.calls k a0_0 _ _ l0_1 t272 t273 _ ?side1 ?side2 A56.out).mono ?_
            (case side1 => exact sc HR0_1)
            (case side2 => exact HC0_1.out)
            rintro e w131 ⟨v274, rfl, ho0, hb⟩
            refine ⟨_, rfl, ?_⟩
            have n0 := ra (Kd.R_elder' (rq HO255) (Kd.R_base ho0) hb)
            have n1 := ra (Kd.R_elder' (rq HO259) (Kd.R_base ho0) hb)
            have n2 := ra (Kd.R_elder' (rq HO264) (Kd.R_base ho0) hb)
            have n3 := ra (Kd.R_elder' (rq HO269) (Kd.R_base ho0) hb)
            have n4 := ra (Kd.R_lower (Kd.R_new' (Kd.R_new' (Kd.R_new' (Kd.R_new' ho0 (Kd.R_lt (rq HO255))) (Kd.R_lt (rq HO259))) (Kd.R_lt (rq HO264))) (Kd.R_lt (rq HO269))) (below_size bq))
            have n5 := bb (bk BK248) hb
            have n6 := bb (bk BK249) hb
            have n7 := bb (bk BK265) hb
            have n8_ := bb (bk BK270) hb
            have n9_ := bs hb
            clear HO255 HO259 HO264 HO269 BK248 BK249 BK265 BK270 HB
            have HO255 := n0
            have HO259 := n1
            have HO264 := n2
            have HO269 := n3
            have HO275 := n4
            have BK248 := n5
            have BK249 := n6
            have BK265 := n7
            have BK270 := n8_
            have HB := n9_
            clear n0 n1 n2 n3 n4 n5 n6 n7 n8_ n9_
            (try clear hb)
            (try clear hb2)
            (try clear hk)
            (try clear hi)
            (try clear ho0)
            obtain ⟨Ao132, co132, eo132⟩ := Kd.R_slice HO275.out
            (first | subst eo132 | (injection eo132 with f1_ f2_ f3_; have f4_ := f1_.symm; have f5_ := f3_.symm; clear f1_ f2_ f3_; subst f4_; subst f5_))
            refine hK.out _ _ ⟨(blk_cell BK265.out 0).trans rfl, (blk_cell BK265.out 1).trans rfl, (blk_cell BK248.out 0).trans rfl, (blk_cell BK248.out 1).trans rfl⟩ (fun hHeld => ?_)
            clear hK K
            refine nm 37 ?_
            refine oe 3 38 (bl 5 15) (fun K hK => ?_)
            refine gs Try.func24 #[.agg #[.string t261, .slice Ao119 t262.length co119], .agg #[.string t272, .slice Ao132 t273.length co132]] ?_
            with_reducible refine (laws_eqProbeTube.calls k t261 _ _ t262 t272 _ _ t273 true _ ?side1 ?side2 ?side3 ?side4 A57.out).mono ?_
            (case side1 => exact sr HO264)
            (case side2 => exact (Kd.R_reads' HO264.out).2.1)
            (case side3 => exact sr HO275)
            (case side4 => exact (Kd.R_reads' HO275.out).2.1)
            rintro e w133 ⟨rfl, hb⟩
            refine ⟨_, rfl, ?_⟩
            have n0 := ra (Kd.R_below (rq HO255) hb)
            have n1 := ra (Kd.R_below (rq HO259) hb)
            have n2 := ra (Kd.R_below (rq HO264) hb)
            have n3 := ra (Kd.R_below (rq HO269) hb)
            have n4 := ra (Kd.R_below (rq HO275) hb)
            have n5 := bb (bk BK248) hb
            have n6 := bb (bk BK249) hb
            have n7 := bb (bk BK265) hb
            have n8_ := bb (bk BK270) hb
            have n9_ := bs hb
            clear HO255 HO259 HO264 HO269 HO275 BK248 BK249 BK265 BK270 HB
            have HO255 := n0
            have HO259 := n1
            have HO264 := n2
            have HO269 := n3
            have HO275 := n4
            have BK248 := n5
            have BK249 := n6
            have BK265 := n7
            have BK270 := n8_
            have HB := n9_
            clear n0 n1 n2 n3 n4 n5 n6 n7 n8_ n9_
            (try clear hb)
            (try clear hb2)
            (try clear hk)
            (try clear hi)
            refine hK.out _ _ ⟨(blk_cell BK265.out 0).trans rfl, (blk_cell BK265.out 1).trans rfl, (blk_cell BK248.out 0).trans rfl, (blk_cell BK248.out 1).trans rfl⟩ (fun hHeld => ?_)
            clear hK K
            refine nm 38 ?_
            refine pu 4 39 (bl 5 31) ?_
            refine done_ (by kernel_rfl) ?_
            try go_wp2
            have n0 := ra (Kd.R_drew HO255.out)
            have n1 := ra (Kd.R_drew HO259.out)
            have n2 := ra (Kd.R_drew HO264.out)
            have n3 := ra (Kd.R_drew HO269.out)
            have n4 := ra (Kd.R_drew HO275.out)
            have n5 := ra (blk_drew BK248.out)
            have n6 := ra (blk_drew BK249.out)
            have n7 := ra (blk_drew BK265.out)
            have n8_ := ra (blk_drew BK270.out)
            have n9_ := ra (below_drew1 HB.out)
            clear HO255 HO259 HO264 HO269 HO275 BK248 BK249 BK265 BK270 HB
            have HO255 := n0
            have HO259 := n1
            have HO264 := n2
            have HO269 := n3
            have HO275 := n4
            have BK248 := n5
            have BK249 := n6
            have BK265 := n7
            have BK270 := n8_
            have HB := n9_
            clear n0 n1 n2 n3 n4 n5 n6 n7 n8_ n9_
            refine start_ (n := 5) (S := fun w' => w'.cell? ⟨gb270, 0, none⟩ = some (.string t266) ∧ w'.cell? ⟨gb270, 1, none⟩ = some (.slice Ao127 t267.length co127) ∧ w'.cell? ⟨gb249, 0, none⟩ = some (.string a1_0) ∧ w'.cell? ⟨gb249, 1, none⟩ = some (.slice A1_1 l1_1.length c1_1)) (ds := []) (bl 5 0) (by kernel_rfl) rfl rfl ⟨(blk_cell BK270.out 0).trans rfl, (blk_cell BK270.out 1).trans rfl, (blk_cell BK249.out 0).trans rfl, (blk_cell BK249.out 1).trans rfl⟩ (fun hHeld => ?_)
            generalize w133.drew = w134 at HO255 HO259 HO264 HO269 HO275 BK248 BK249 BK265 BK270 HB hHeld ⊢
            refine tk 0 40 (bl 5 1) ?_ hHeld
            refine tk 1 41 (bl 5 3) ?_ hHeld
            refine oe 2 42 (bl 5 7) (fun K hK => ?_)
            refine gs Try.func22 #[.agg #[.string a1_0, .slice A1_1 l1_1.length c1_1]] ?_
            with_reducible refine (laws_toProbeTube.calls k a1_0 _ _ l1_1 t277 t278 _ ?side1 ?side2 A59.out).mono ?_
            (case side1 => exact sc HR1_1)
            (case side2 => exact HC1_1.out)
            rintro e w135 ⟨v279, rfl, ho0, hb⟩
            refine ⟨_, rfl, ?_⟩
            have n0 := ra (Kd.R_elder' (rq HO255) (Kd.R_base ho0) hb)
            have n1 := ra (Kd.R_elder' (rq HO259) (Kd.R_base ho0) hb)
            have n2 := ra (Kd.R_elder' (rq HO264) (Kd.R_base ho0) hb)
            have n3 := ra (Kd.R_elder' (rq HO269) (Kd.R_base ho0) hb)
            have n4 := ra (Kd.R_elder' (rq HO275) (Kd.R_base ho0) hb)
            have n5 := ra (Kd.R_lower (Kd.R_new' (Kd.R_new' (Kd.R_new' (Kd.R_new' (Kd.R_new' ho0 (Kd.R_lt (rq HO255))) (Kd.R_lt (rq HO259))) (Kd.R_lt (rq HO264))) (Kd.R_lt (rq HO269))) (Kd.R_lt (rq HO275))) (below_size bq))
            have n6 := bb (bk BK248) hb
            have n7 := bb (bk BK249) hb
            have n8_ := bb (bk BK265) hb
            have n9_ := bb (bk BK270) hb
            have n10_ := bs hb
            clear HO255 HO259 HO264 HO269 HO275 BK248 BK249 BK265 BK270 HB
            have HO255 := n0
            have HO259 := n1
            have HO264 := n2
            have HO269 := n3
            have HO275 := n4
            have HO280 := n5
            have BK248 := n6
            have BK249 := n7
            have BK265 := n8_
            have BK270 := n9_
            have HB := n10_
            clear n0 n1 n2 n3 n4 n5 n6 n7 n8_ n9_ n10_
            (try clear hb)
            (try clear hb2)
            (try clear hk)
            (try clear hi)
            (try clear ho0)
            obtain ⟨Ao136, co136, eo136⟩ := Kd.R_slice HO280.out
            (first | subst eo136 | (injection eo136 with f1_ f2_ f3_; have f4_ := f1_.symm; have f5_ := f3_.symm; clear f1_ f2_ f3_; subst f4_; subst f5_))
            refine hK.out _ _ ⟨(blk_cell BK270.out 0).trans rfl, (blk_cell BK270.out 1).trans rfl, (blk_cell BK249.out 0).trans rfl, (blk_cell BK249.out 1).trans rfl⟩ (fun hHeld => ?_)
            clear hK K
            refine nm 42 ?_
            refine oe 3 43 (bl 5 15) (fun K hK => ?_)
            refine gs Try.func24 #[.agg #[.string t266, .slice Ao127 t267.length co127], .agg #[.string t277, .slice Ao136 t278.length co136]] ?_
            with_reducible refine (laws_eqProbeTube.calls k t266 _ _ t267 t277 _ _ t278 false _ ?side1 ?side2 ?side3 ?side4 A60.out).mono ?_
            (case side1 => exact sr HO269)
            (case side2 => exact (Kd.R_reads' HO269.out).2.1)
            (case side3 => exact sr HO280)
            (case side4 => exact (Kd.R_reads' HO280.out).2.1)
            rintro e w137 ⟨rfl, hb⟩
            refine ⟨_, rfl, ?_⟩
            have n0 := ra (Kd.R_below (rq HO255) hb)
            have n1 := ra (Kd.R_below (rq HO259) hb)
            have n2 := ra (Kd.R_below (rq HO264) hb)
            have n3 := ra (Kd.R_below (rq HO269) hb)
            have n4 := ra (Kd.R_below (rq HO275) hb)
            have n5 := ra (Kd.R_below (rq HO280) hb)
            have n6 := bb (bk BK248) hb
            have n7 := bb (bk BK249) hb
            have n8_ := bb (bk BK265) hb
            have n9_ := bb (bk BK270) hb
            have n10_ := bs hb
            clear HO255 HO259 HO264 HO269 HO275 HO280 BK248 BK249 BK265 BK270 HB
            have HO255 := n0
            have HO259 := n1
            have HO264 := n2
            have HO269 := n3
            have HO275 := n4
            have HO280 := n5
            have BK248 := n6
            have BK249 := n7
            have BK265 := n8_
            have BK270 := n9_
            have HB := n10_
            clear n0 n1 n2 n3 n4 n5 n6 n7 n8_ n9_ n10_
            (try clear hb)
            (try clear hb2)
            (try clear hk)
            (try clear hi)
            refine hK.out _ _ ⟨(blk_cell BK270.out 0).trans rfl, (blk_cell BK270.out 1).trans rfl, (blk_cell BK249.out 0).trans rfl, (blk_cell BK249.out 1).trans rfl⟩ (fun hHeld => ?_)
            clear hK K
            refine nm 43 ?_
            refine pu 4 44 (bl 5 31) ?_
            refine done_ (by kernel_rfl) ?_
            try go_wp2
            go_ret
            exact ⟨re, bq⟩
        · replace c58 := Bool.eq_false_iff.mpr c58
          subst c58
          have H1 : (some false) = some r := by rw [if_neg (show ¬ (false = true) by decide)] at H; exact H
          clear H
          have H := H1
          clear H1
          obtain rfl := Option.some.inj H
          go_enter Try.func7, Try.ntmps7
          try go_wp2_with (first | ((with_reducible refine gate_dst (N := 2) rfl ?_); refine be 2 #[.string a0_0, .slice A0_1 l0_1.length c0_1] 34 ?_; intro gb248 hg w138 hbox hb; have n0 := bs hb; have n1 := ra (hbox); have n2 := bz (w0 := w) hg; have n3 := bz (w0 := w) hg; clear HB; have HB := n0; have BK248 := n1; have GW248 := n2; have GE248 := n3; clear n0 n1 n2 n3; clear hb hbox hg) | ((with_reducible refine gate_dst (N := 3) rfl ?_); refine be 3 #[.string a1_0, .slice A1_1 l1_1.length c1_1] 34 ?_; intro gb249 hg w139 hbox hb; have n0 := bb (bk BK248) hb; have n1 := bs hb; have n2 := ra (hbox); have n3 := bz (w0 := w) hg; have n4 := bz (w0 := w) hg; have n5 := bn hg (bk BK248); have n6 := bm hg (bk BK248); clear BK248 HB; have BK248 := n0; have HB := n1; have BK249 := n2; have GW249 := n3; have GE249 := n4; have NB248_249 := n5; have NB249_248 := n6; clear n0 n1 n2 n3 n4 n5 n6; clear hb hbox hg; have hnb140 := NB248_249.out; have hnc140 := NB249_248.out; obtain ⟨hcz141_0, hcz141_1, hfz141_0, hfz141_1⟩ := zc2 BK248) | ((with_reducible refine gate_callee (f := 20) rfl ?_); refine gl (some 12) Try.func20 #[.agg #[.string a0_0, .slice A0_1 l0_1.length c0_1], .int .i64 1048576] ?_; (with_reducible refine (laws_szProbeTube.calls a0_0 _ _ l0_1 1048576 t250 _ ?side1 ?side2 A3.out).mono ?_); (case side1 => exact sc HR0_1); (case side2 => exact HC0_1.out); rintro e w142 ⟨rfl, hb⟩; refine ⟨_, rfl, ?_⟩; have n0 := bb (bk BK248) hb; have n1 := bb (bk BK249) hb; have n2 := bs hb; clear BK248 BK249 HB; have BK248 := n0; have BK249 := n1; have HB := n2; clear n0 n1 n2; (try clear hb); (try clear hb2); (try clear hk); (try clear hi); obtain ⟨hcz143_0, hcz143_1, hfz143_0, hfz143_1⟩ := zc2 BK249) | ((with_reducible refine gate_callee (f := 20) rfl ?_); refine gl (some 17) Try.func20 #[.agg #[.string a1_0, .slice A1_1 l1_1.length c1_1], .int .i64 t250] ?_; (with_reducible refine (laws_szProbeTube.calls a1_0 _ _ l1_1 t250 t251 _ ?side1 ?side2 A10.out).mono ?_); (case side1 => exact sc HR1_1); (case side2 => exact HC1_1.out); rintro e w144 ⟨rfl, hb⟩; refine ⟨_, rfl, ?_⟩; have n0 := bb (bk BK248) hb; have n1 := bb (bk BK249) hb; have n2 := bs hb; clear BK248 BK249 HB; have BK248 := n0; have BK249 := n1; have HB := n2; clear n0 n1 n2; (try clear hb); (try clear hb2); (try clear hk); (try clear hi)))
          have n0 := ra (blk_drew BK248.out)
          have n1 := ra (blk_drew BK249.out)
          have n2 := ra (below_drew1 HB.out)
          clear BK248 BK249 HB
          have BK248 := n0
          have BK249 := n1
          have HB := n2
          clear n0 n1 n2
          refine start_ (n := 6) (S := fun w' => w'.cell? ⟨gb248, 0, none⟩ = some (.string a0_0) ∧ w'.cell? ⟨gb248, 1, none⟩ = some (.slice A0_1 l0_1.length c0_1) ∧ w'.cell? ⟨gb249, 0, none⟩ = some (.string a1_0) ∧ w'.cell? ⟨gb249, 1, none⟩ = some (.slice A1_1 l1_1.length c1_1)) (ds := []) (bl 6 0) (by kernel_rfl) rfl rfl ⟨(blk_cell BK248.out 0).trans rfl, (blk_cell BK248.out 1).trans rfl, (blk_cell BK249.out 0).trans rfl, (blk_cell BK249.out 1).trans rfl⟩ (fun hHeld => ?_)
          generalize w144.drew = w145 at BK248 BK249 HB hHeld ⊢
          refine tk 0 20 (bl 6 1) ?_ hHeld
          refine tk 2 22 (bl 6 5) ?_ hHeld
          refine oe 1 21 (bl 6 7) (fun K hK => ?_)
          refine gs Try.func22 #[.agg #[.string a0_0, .slice A0_1 l0_1.length c0_1]] ?_
          with_reducible refine (laws_toProbeTube.calls k a0_0 _ _ l0_1 t252 t253 _ ?side1 ?side2 A19.out).mono ?_
          (case side1 => exact sc HR0_1)
          (case side2 => exact HC0_1.out)
          rintro e w146 ⟨v254, rfl, ho0, hb⟩
          refine ⟨_, rfl, ?_⟩
          have n0 := ra (Kd.R_lower ho0 (below_size bq))
          have n1 := bb (bk BK248) hb
          have n2 := bb (bk BK249) hb
          have n3 := bs hb
          clear BK248 BK249 HB
          have HO255 := n0
          have BK248 := n1
          have BK249 := n2
          have HB := n3
          clear n0 n1 n2 n3
          (try clear hb)
          (try clear hb2)
          (try clear hk)
          (try clear hi)
          (try clear ho0)
          refine hK.out _ _ ⟨(blk_cell BK248.out 0).trans rfl, (blk_cell BK248.out 1).trans rfl, (blk_cell BK249.out 0).trans rfl, (blk_cell BK249.out 1).trans rfl⟩ (fun hHeld => ?_)
          clear hK K
          refine nm 21 ?_
          refine oe 3 23 (bl 6 15) (fun K hK => ?_)
          refine gs Try.func22 #[.agg #[.string a1_0, .slice A1_1 l1_1.length c1_1]] ?_
          with_reducible refine (laws_toProbeTube.calls k a1_0 _ _ l1_1 t256 t257 _ ?side1 ?side2 A20.out).mono ?_
          (case side1 => exact sc HR1_1)
          (case side2 => exact HC1_1.out)
          rintro e w147 ⟨v258, rfl, ho0, hb⟩
          refine ⟨_, rfl, ?_⟩
          have n0 := ra (Kd.R_elder' (rq HO255) (Kd.R_base ho0) hb)
          have n1 := ra (Kd.R_lower (Kd.R_new' ho0 (Kd.R_lt (rq HO255))) (below_size bq))
          have n2 := bb (bk BK248) hb
          have n3 := bb (bk BK249) hb
          have n4 := bs hb
          clear HO255 BK248 BK249 HB
          have HO255 := n0
          have HO259 := n1
          have BK248 := n2
          have BK249 := n3
          have HB := n4
          clear n0 n1 n2 n3 n4
          (try clear hb)
          (try clear hb2)
          (try clear hk)
          (try clear hi)
          (try clear ho0)
          obtain ⟨Ao148, co148, eo148⟩ := Kd.R_slice HO255.out
          (first | subst eo148 | (injection eo148 with f1_ f2_ f3_; have f4_ := f1_.symm; have f5_ := f3_.symm; clear f1_ f2_ f3_; subst f4_; subst f5_))
          obtain ⟨Ao149, co149, eo149⟩ := Kd.R_slice HO259.out
          (first | subst eo149 | (injection eo149 with f1_ f2_ f3_; have f4_ := f1_.symm; have f5_ := f3_.symm; clear f1_ f2_ f3_; subst f4_; subst f5_))
          refine hK.out _ _ ⟨(blk_cell BK248.out 0).trans rfl, (blk_cell BK248.out 1).trans rfl, (blk_cell BK249.out 0).trans rfl, (blk_cell BK249.out 1).trans rfl⟩ (fun hHeld => ?_)
          clear hK K
          refine nm 23 ?_
          refine oe 4 24 (bl 6 31) (fun K hK => ?_)
          refine gs Try.func25 #[.agg #[.string t252, .slice Ao148 t253.length co148], .agg #[.string t256, .slice Ao149 t257.length co149]] ?_
          with_reducible refine (spec_ProbeSmaller.calls k t252 _ _ t253 t256 _ _ t257 t260 _ ?side1 ?side2 ?side3 ?side4 A21.out).mono ?_
          (case side1 => exact sr HO255)
          (case side2 => exact (Kd.R_reads' HO255.out).2.1)
          (case side3 => exact sr HO259)
          (case side4 => exact (Kd.R_reads' HO259.out).2.1)
          rintro e w150 ⟨rfl, hb⟩
          refine ⟨_, rfl, ?_⟩
          have n0 := ra (Kd.R_below (rq HO255) hb)
          have n1 := ra (Kd.R_below (rq HO259) hb)
          have n2 := bb (bk BK248) hb
          have n3 := bb (bk BK249) hb
          have n4 := bs hb
          clear HO255 HO259 BK248 BK249 HB
          have HO255 := n0
          have HO259 := n1
          have BK248 := n2
          have BK249 := n3
          have HB := n4
          clear n0 n1 n2 n3 n4
          (try clear hb)
          (try clear hb2)
          (try clear hk)
          (try clear hi)
          refine hK.out _ _ ⟨(blk_cell BK248.out 0).trans rfl, (blk_cell BK248.out 1).trans rfl, (blk_cell BK249.out 0).trans rfl, (blk_cell BK249.out 1).trans rfl⟩ (fun hHeld => ?_)
          clear hK K
          refine nm 24 ?_
          refine pu 5 6 (bl 6 63) ?_
          refine done_ (by kernel_rfl) ?_
          obtain ⟨hcz151_0, hcz151_1, hfz151_0, hfz151_1⟩ := zc2 BK248
          try go_wp2_with (first | ((with_reducible refine gate_callee (f := 22) rfl ?_); refine gl (some 26) Try.func22 #[.agg #[.string a0_0, .slice A0_1 l0_1.length c0_1]] ?_; (with_reducible refine (laws_toProbeTube.calls k a0_0 _ _ l0_1 t261 t262 _ ?side1 ?side2 A22.out).mono ?_); (case side1 => exact sc HR0_1); (case side2 => exact HC0_1.out); rintro e w152 ⟨v263, rfl, ho0, hb⟩; refine ⟨_, rfl, ?_⟩; have n0 := ra (Kd.R_elder' (rq HO255) (Kd.R_base ho0) hb); have n1 := ra (Kd.R_elder' (rq HO259) (Kd.R_base ho0) hb); have n2 := ra (Kd.R_lower (Kd.R_new' (Kd.R_new' ho0 (Kd.R_lt (rq HO255))) (Kd.R_lt (rq HO259))) (below_size bq)); have n3 := bb (bk BK248) hb; have n4 := bb (bk BK249) hb; have n5 := bs hb; clear HO255 HO259 BK248 BK249 HB; have HO255 := n0; have HO259 := n1; have HO264 := n2; have BK248 := n3; have BK249 := n4; have HB := n5; clear n0 n1 n2 n3 n4 n5; (try clear hb); (try clear hb2); (try clear hk); (try clear hi); (try clear ho0)) | ((with_reducible refine gate_dst (N := 7) rfl ?_); refine be 7 #[.string (⟨#[]⟩ : ByteArray), .slice none 0 0] 39 ?_; intro gb265 hg w153 hbox hb; have n0 := ra (Kd.R_below (rq HO255) hb); have n1 := ra (Kd.R_below (rq HO259) hb); have n2 := ra (Kd.R_below (rq HO264) hb); have n3 := bb (bk BK248) hb; have n4 := bb (bk BK249) hb; have n5 := bs hb; have n6 := ra (hbox); have n7 := bz (w0 := w) hg; have n8_ := bz (w0 := w) hg; have n9_ := bn hg (bk BK248); have n10_ := bm hg (bk BK248); have n11_ := bn hg (bk BK249); have n12_ := bm hg (bk BK249); clear HO255 HO259 HO264 BK248 BK249 HB; have HO255 := n0; have HO259 := n1; have HO264 := n2; have BK248 := n3; have BK249 := n4; have HB := n5; have BK265 := n6; have GW265 := n7; have GE265 := n8_; have NB248_265 := n9_; have NB265_248 := n10_; have NB249_265 := n11_; have NB265_249 := n12_; clear n0 n1 n2 n3 n4 n5 n6 n7 n8_ n9_ n10_ n11_ n12_; clear hb hbox hg; have hnb154 := NB265_248.out; have hnc154 := NB248_265.out; have hnb155 := NB265_249.out; have hnc155 := NB249_265.out; obtain ⟨hcz156_0, hcz156_1, hfz156_0, hfz156_1⟩ := zc2 BK265; obtain ⟨Ao157, co157, eo157⟩ := Kd.R_slice HO264.out; subst eo157; obtain ⟨hcz158_0, hcz158_1, hfz158_0, hfz158_1⟩ := zc2 BK249) | ((with_reducible refine gate_callee (f := 22) rfl ?_); refine gl (some 28) Try.func22 #[.agg #[.string a1_0, .slice A1_1 l1_1.length c1_1]] ?_; (with_reducible refine (laws_toProbeTube.calls k a1_0 _ _ l1_1 t266 t267 _ ?side1 ?side2 A23.out).mono ?_); (case side1 => exact Kd.C_below HR1_1.out bq); (case side2 => exact HC1_1.out); rintro e w159 ⟨v268, rfl, ho0, hb⟩; refine ⟨_, rfl, ?_⟩; have n0 := ra (Kd.R_elder' (rr (Kd.R_mono (Kd.R_far (p := ⟨gb265, 1, none⟩) (Kd.R_far (p := ⟨gb265, 0, none⟩) (Kd.R_types HO255.out BK265.out (by decide)) (fun _ hk => hk.2) (.string t261)) (fun _ hk => hk.2) (.slice Ao157 t262.length co157)) (fun _ h_ => h_.1))) (Kd.R_base ho0) hb); have n1 := ra (Kd.R_elder' (rr (Kd.R_mono (Kd.R_far (p := ⟨gb265, 1, none⟩) (Kd.R_far (p := ⟨gb265, 0, none⟩) (Kd.R_types HO259.out BK265.out (by decide)) (fun _ hk => hk.2) (.string t261)) (fun _ hk => hk.2) (.slice Ao157 t262.length co157)) (fun _ h_ => h_.1))) (Kd.R_base ho0) hb); have n2 := ra (Kd.R_elder' (rr (Kd.R_mono (Kd.R_far (p := ⟨gb265, 1, none⟩) (Kd.R_far (p := ⟨gb265, 0, none⟩) (Kd.R_types HO264.out BK265.out (by decide)) (fun _ hk => hk.2) (.string t261)) (fun _ hk => hk.2) (.slice Ao157 t262.length co157)) (fun _ h_ => h_.1))) (Kd.R_base ho0) hb); have n3 := ra (Kd.R_lower (Kd.R_new' (Kd.R_new' (Kd.R_new' ho0 (Kd.R_lt (rr (Kd.R_mono (Kd.R_far (p := ⟨gb265, 1, none⟩) (Kd.R_far (p := ⟨gb265, 0, none⟩) (Kd.R_types HO255.out BK265.out (by decide)) (fun _ hk => hk.2) (.string t261)) (fun _ hk => hk.2) (.slice Ao157 t262.length co157)) (fun _ h_ => h_.1))))) (Kd.R_lt (rr (Kd.R_mono (Kd.R_far (p := ⟨gb265, 1, none⟩) (Kd.R_far (p := ⟨gb265, 0, none⟩) (Kd.R_types HO259.out BK265.out (by decide)) (fun _ hk => hk.2) (.string t261)) (fun _ hk => hk.2) (.slice Ao157 t262.length co157)) (fun _ h_ => h_.1))))) (Kd.R_lt (rr (Kd.R_mono (Kd.R_far (p := ⟨gb265, 1, none⟩) (Kd.R_far (p := ⟨gb265, 0, none⟩) (Kd.R_types HO264.out BK265.out (by decide)) (fun _ hk => hk.2) (.string t261)) (fun _ hk => hk.2) (.slice Ao157 t262.length co157)) (fun _ h_ => h_.1))))) (below_size bq)); have n4 := bb (bk BK248) hb; have n5 := bb (bk BK249) hb; have n6 := bb (o := .cells #[.string t261, .slice Ao157 t262.length co157] 39 (0, 0)) (bp BK265) hb; have n7 := bs hb; clear HO255 HO259 HO264 BK248 BK249 BK265 HB; have HO255 := n0; have HO259 := n1; have HO264 := n2; have HO269 := n3; have BK248 := n4; have BK249 := n5; have BK265 := n6; have HB := n7; clear n0 n1 n2 n3 n4 n5 n6 n7; (try clear hb); (try clear hb2); (try clear hk); (try clear hi); (try clear ho0)) | ((with_reducible refine gate_dst (N := 8) rfl ?_); refine be 8 #[.string (⟨#[]⟩ : ByteArray), .slice none 0 0] 39 ?_; intro gb270 hg w160 hbox hb; have n0 := ra (Kd.R_below (rq HO255) hb); have n1 := ra (Kd.R_below (rq HO259) hb); have n2 := ra (Kd.R_below (rq HO264) hb); have n3 := ra (Kd.R_below (rq HO269) hb); have n4 := bb (bk BK248) hb; have n5 := bb (bk BK249) hb; have n6 := bb (bk BK265) hb; have n7 := bs hb; have n8_ := ra (hbox); have n9_ := bz (w0 := w) hg; have n10_ := bz (w0 := w) hg; have n11_ := bn hg (bk BK248); have n12_ := bm hg (bk BK248); have n13_ := bn hg (bk BK249); have n14_ := bm hg (bk BK249); have n15_ := bn hg (bk BK265); have n16_ := bm hg (bk BK265); clear HO255 HO259 HO264 HO269 BK248 BK249 BK265 HB; have HO255 := n0; have HO259 := n1; have HO264 := n2; have HO269 := n3; have BK248 := n4; have BK249 := n5; have BK265 := n6; have HB := n7; have BK270 := n8_; have GW270 := n9_; have GE270 := n10_; have NB248_270 := n11_; have NB270_248 := n12_; have NB249_270 := n13_; have NB270_249 := n14_; have NB265_270 := n15_; have NB270_265 := n16_; clear n0 n1 n2 n3 n4 n5 n6 n7 n8_ n9_ n10_ n11_ n12_ n13_ n14_ n15_ n16_; clear hb hbox hg; have hnb161 := NB270_248.out; have hnc161 := NB248_270.out; have hnb162 := NB270_249.out; have hnc162 := NB249_270.out; have hnb163 := NB270_265.out; have hnc163 := NB265_270.out; obtain ⟨hcz164_0, hcz164_1, hfz164_0, hfz164_1⟩ := zc2 BK270; obtain ⟨Ao165, co165, eo165⟩ := Kd.R_slice HO269.out; subst eo165; obtain ⟨hcz166_0, hcz166_1, hfz166_0, hfz166_1⟩ := zc2 BK265) | ((with_reducible refine gate_callee (f := 26) rfl ?_); refine gl (some 31) Try.func26 #[.agg #[.string t261, .slice Ao157 t262.length co157], .agg #[.string t266, .slice Ao165 t267.length co165]] ?_; (with_reducible refine (impl_ProbeSmaller.calls k t261 _ _ t262 t266 _ _ t267 t271 _ ?side1 ?side2 ?side3 ?side4 A24.out).mono ?_); (case side1 => refine (Kd.R_reads' (e := 26) (base := w.heap.size) (ok := fun k_ => (((True ∧ some k_ ≠ (.slice Ao148 t253.length co148 : Value).ownBlock) ∧ some k_ ≠ (.slice Ao149 t257.length co149 : Value).ownBlock) ∧ some k_ ≠ (.slice Ao165 t267.length co165 : Value).ownBlock)) (n := t262.length) (c := co157) ?_).2.2; exact (rr (Kd.R_mono (Kd.R_far (p := ⟨gb270, 1, none⟩) (Kd.R_far (p := ⟨gb270, 0, none⟩) (Kd.R_types HO264.out BK270.out (by decide)) (fun _ hk => hk.2) (.string t266)) (fun _ hk => hk.2) (.slice Ao165 t267.length co165)) (fun _ h_ => h_.1)))); (case side2 => exact (Kd.R_reads' HO264.out).2.1); (case side3 => refine (Kd.R_reads' (e := 26) (base := w.heap.size) (ok := fun k_ => (((True ∧ some k_ ≠ (.slice Ao148 t253.length co148 : Value).ownBlock) ∧ some k_ ≠ (.slice Ao149 t257.length co149 : Value).ownBlock) ∧ some k_ ≠ (.slice Ao157 t262.length co157 : Value).ownBlock)) (n := t267.length) (c := co165) ?_).2.2; exact (rr (Kd.R_mono (Kd.R_far (p := ⟨gb270, 1, none⟩) (Kd.R_far (p := ⟨gb270, 0, none⟩) (Kd.R_types HO269.out BK270.out (by decide)) (fun _ hk => hk.2) (.string t266)) (fun _ hk => hk.2) (.slice Ao165 t267.length co165)) (fun _ h_ => h_.1)))); (case side4 => exact (Kd.R_reads' HO269.out).2.1); rintro e w167 ⟨rfl, hb⟩; refine ⟨_, rfl, ?_⟩; have n0 := ra (Kd.R_below (rr (Kd.R_mono (Kd.R_far (p := ⟨gb270, 1, none⟩) (Kd.R_far (p := ⟨gb270, 0, none⟩) (Kd.R_types HO255.out BK270.out (by decide)) (fun _ hk => hk.2) (.string t266)) (fun _ hk => hk.2) (.slice Ao165 t267.length co165)) (fun _ h_ => h_.1))) hb); have n1 := ra (Kd.R_below (rr (Kd.R_mono (Kd.R_far (p := ⟨gb270, 1, none⟩) (Kd.R_far (p := ⟨gb270, 0, none⟩) (Kd.R_types HO259.out BK270.out (by decide)) (fun _ hk => hk.2) (.string t266)) (fun _ hk => hk.2) (.slice Ao165 t267.length co165)) (fun _ h_ => h_.1))) hb); have n2 := ra (Kd.R_below (rr (Kd.R_mono (Kd.R_far (p := ⟨gb270, 1, none⟩) (Kd.R_far (p := ⟨gb270, 0, none⟩) (Kd.R_types HO264.out BK270.out (by decide)) (fun _ hk => hk.2) (.string t266)) (fun _ hk => hk.2) (.slice Ao165 t267.length co165)) (fun _ h_ => h_.1))) hb); have n3 := ra (Kd.R_below (rr (Kd.R_mono (Kd.R_far (p := ⟨gb270, 1, none⟩) (Kd.R_far (p := ⟨gb270, 0, none⟩) (Kd.R_types HO269.out BK270.out (by decide)) (fun _ hk => hk.2) (.string t266)) (fun _ hk => hk.2) (.slice Ao165 t267.length co165)) (fun _ h_ => h_.1))) hb); have n4 := bb (bk BK248) hb; have n5 := bb (bk BK249) hb; have n6 := bb (bk BK265) hb; have n7 := bb (o := .cells #[.string t266, .slice Ao165 t267.length co165] 39 (0, 0)) (bp BK270) hb; have n8_ := bs hb; clear HO255 HO259 HO264 HO269 BK248 BK249 BK265 BK270 HB; have HO255 := n0; have HO259 := n1; have HO264 := n2; have HO269 := n3; have BK248 := n4; have BK249 := n5; have BK265 := n6; have BK270 := n7; have HB := n8_; clear n0 n1 n2 n3 n4 n5 n6 n7 n8_; (try clear hb); (try clear hb2); (try clear hk); (try clear hi)))
          have n0 := ra (Kd.R_drew HO255.out)
          have n1 := ra (Kd.R_drew HO259.out)
          have n2 := ra (Kd.R_drew HO264.out)
          have n3 := ra (Kd.R_drew HO269.out)
          have n4 := ra (blk_drew BK248.out)
          have n5 := ra (blk_drew BK249.out)
          have n6 := ra (blk_drew BK265.out)
          have n7 := ra (blk_drew BK270.out)
          have n8_ := ra (below_drew1 HB.out)
          clear HO255 HO259 HO264 HO269 BK248 BK249 BK265 BK270 HB
          have HO255 := n0
          have HO259 := n1
          have HO264 := n2
          have HO269 := n3
          have BK248 := n4
          have BK249 := n5
          have BK265 := n6
          have BK270 := n7
          have HB := n8_
          clear n0 n1 n2 n3 n4 n5 n6 n7 n8_
          refine start_ (n := 5) (S := fun w' => w'.cell? ⟨gb265, 0, none⟩ = some (.string t261) ∧ w'.cell? ⟨gb265, 1, none⟩ = some (.slice Ao157 t262.length co157) ∧ w'.cell? ⟨gb248, 0, none⟩ = some (.string a0_0) ∧ w'.cell? ⟨gb248, 1, none⟩ = some (.slice A0_1 l0_1.length c0_1)) (ds := []) (bl 5 0) (by kernel_rfl) rfl rfl ⟨(blk_cell BK265.out 0).trans rfl, (blk_cell BK265.out 1).trans rfl, (blk_cell BK248.out 0).trans rfl, (blk_cell BK248.out 1).trans rfl⟩ (fun hHeld => ?_)
          generalize w167.drew = w168 at HO255 HO259 HO264 HO269 BK248 BK249 BK265 BK270 HB hHeld ⊢
          refine tk 0 35 (bl 5 1) ?_ hHeld
          refine tk 1 36 (bl 5 3) ?_ hHeld
          refine oe 2 37 (bl 5 7) (fun K hK => ?_)
          refine gs Try.func22 #[.agg #[.string a0_0, .slice A0_1 l0_1.length c0_1]] ?_
          with_reducible refine (laws_toProbeTube.calls k a0_0 _ _ l0_1 t272 t273 _ ?side1 ?side2 A56.out).mono ?_
          (case side1 => exact sc HR0_1)
          (case side2 => exact HC0_1.out)
          rintro e w169 ⟨v274, rfl, ho0, hb⟩
          refine ⟨_, rfl, ?_⟩
          have n0 := ra (Kd.R_elder' (rq HO255) (Kd.R_base ho0) hb)
          have n1 := ra (Kd.R_elder' (rq HO259) (Kd.R_base ho0) hb)
          have n2 := ra (Kd.R_elder' (rq HO264) (Kd.R_base ho0) hb)
          have n3 := ra (Kd.R_elder' (rq HO269) (Kd.R_base ho0) hb)
          have n4 := ra (Kd.R_lower (Kd.R_new' (Kd.R_new' (Kd.R_new' (Kd.R_new' ho0 (Kd.R_lt (rq HO255))) (Kd.R_lt (rq HO259))) (Kd.R_lt (rq HO264))) (Kd.R_lt (rq HO269))) (below_size bq))
          have n5 := bb (bk BK248) hb
          have n6 := bb (bk BK249) hb
          have n7 := bb (bk BK265) hb
          have n8_ := bb (bk BK270) hb
          have n9_ := bs hb
          clear HO255 HO259 HO264 HO269 BK248 BK249 BK265 BK270 HB
          have HO255 := n0
          have HO259 := n1
          have HO264 := n2
          have HO269 := n3
          have HO275 := n4
          have BK248 := n5
          have BK249 := n6
          have BK265 := n7
          have BK270 := n8_
          have HB := n9_
          clear n0 n1 n2 n3 n4 n5 n6 n7 n8_ n9_
          (try clear hb)
          (try clear hb2)
          (try clear hk)
          (try clear hi)
          (try clear ho0)
          obtain ⟨Ao170, co170, eo170⟩ := Kd.R_slice HO275.out
          (first | subst eo170 | (injection eo170 with f1_ f2_ f3_; have f4_ := f1_.symm; have f5_ := f3_.symm; clear f1_ f2_ f3_; subst f4_; subst f5_))
          refine hK.out _ _ ⟨(blk_cell BK265.out 0).trans rfl, (blk_cell BK265.out 1).trans rfl, (blk_cell BK248.out 0).trans rfl, (blk_cell BK248.out 1).trans rfl⟩ (fun hHeld => ?_)
          clear hK K
          refine nm 37 ?_
          refine oe 3 38 (bl 5 15) (fun K hK => ?_)
          refine gs Try.func24 #[.agg #[.string t261, .slice Ao157 t262.length co157], .agg #[.string t272, .slice Ao170 t273.length co170]] ?_
          with_reducible refine (laws_eqProbeTube.calls k t261 _ _ t262 t272 _ _ t273 false _ ?side1 ?side2 ?side3 ?side4 A57.out).mono ?_
          (case side1 => exact sr HO264)
          (case side2 => exact (Kd.R_reads' HO264.out).2.1)
          (case side3 => exact sr HO275)
          (case side4 => exact (Kd.R_reads' HO275.out).2.1)
          rintro e w171 ⟨rfl, hb⟩
          refine ⟨_, rfl, ?_⟩
          have n0 := ra (Kd.R_below (rq HO255) hb)
          have n1 := ra (Kd.R_below (rq HO259) hb)
          have n2 := ra (Kd.R_below (rq HO264) hb)
          have n3 := ra (Kd.R_below (rq HO269) hb)
          have n4 := ra (Kd.R_below (rq HO275) hb)
          have n5 := bb (bk BK248) hb
          have n6 := bb (bk BK249) hb
          have n7 := bb (bk BK265) hb
          have n8_ := bb (bk BK270) hb
          have n9_ := bs hb
          clear HO255 HO259 HO264 HO269 HO275 BK248 BK249 BK265 BK270 HB
          have HO255 := n0
          have HO259 := n1
          have HO264 := n2
          have HO269 := n3
          have HO275 := n4
          have BK248 := n5
          have BK249 := n6
          have BK265 := n7
          have BK270 := n8_
          have HB := n9_
          clear n0 n1 n2 n3 n4 n5 n6 n7 n8_ n9_
          (try clear hb)
          (try clear hb2)
          (try clear hk)
          (try clear hi)
          refine hK.out _ _ ⟨(blk_cell BK265.out 0).trans rfl, (blk_cell BK265.out 1).trans rfl, (blk_cell BK248.out 0).trans rfl, (blk_cell BK248.out 1).trans rfl⟩ (fun hHeld => ?_)
          clear hK K
          refine nm 38 ?_
          refine pu 4 39 (bl 5 31) ?_
          refine done_ (by kernel_rfl) ?_
          try go_wp2
          go_ret
          exact ⟨re, bq⟩
end Go.Proofs.Ytfoapgcnjnogiaa.PA
