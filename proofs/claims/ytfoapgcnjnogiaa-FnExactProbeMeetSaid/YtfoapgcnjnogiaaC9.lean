/- A contract of the function laws_FnExactProbeMeet. (Began as a print of the kit's tool.) -/
import Derived.Test.YtfoapgcnjnogiaaPAd
import Derived.Test.YtfoapgcnjnogiaaCx
import Derived.Test.YtfoapgcnjnogiaaC20
import Derived.Test.YtfoapgcnjnogiaaC22
import Derived.Test.YtfoapgcnjnogiaaC32
import Derived.Test.YtfoapgcnjnogiaaC33
import Derived.Test.YtfoapgcnjnogiaaC34
import Derived.Test.YtfoapgcnjnogiaaC24
namespace Go.Proofs.Ytfoapgcnjnogiaa.PA
open Go.RowKit Go.Proofs.YtfoapgcnjnogiaaW.PrintWords Go.Proofs.YtfoapgcnjnogiaaW.PrintLast Go.Proofs.YtfoapgcnjnogiaaW.PrintMore Go.Proofs.Ytfoapgcnjnogiaa.Z
attribute [local go_sem] max2_int min2_int max_two min_two max_three min_three max_four min_four
set_option linter.unusedVariables false
set_option linter.unusedSimpArgs false
def laws_FnExactProbeMeet.T8 : Bool × List (List Nat × List Nat) := (true, [([], []), ([0], [0]), ([], []), ([2, 1], [2]), ([1, 3, 3], [1, 3]), ([4], [4]), ([5], [5]), ([5], [5]), ([], []), ([8, 6, 4, 0, 1, 2, 3, 4, 5, 6, 8], [6, 8]), ([7, 9, 0, 1, 2, 3, 4, 5, 6, 7, 8, 9], [7])])
def laws_FnExactProbeMeet.B8 : List Nat := [0, 1, 0, 7, 15, 31, 63, 63, 0, 383, 1023]
theorem laws_FnExactProbeMeet.tab8 : rtab .any (opsOf Try.f9 8) = laws_FnExactProbeMeet.T8 := by kernel_rfl
theorem laws_FnExactProbeMeet.bits8 : waitsOk laws_FnExactProbeMeet.T8.2 laws_FnExactProbeMeet.B8 = true := by kernel_rfl
set_option maxHeartbeats 8000000 in
set_option maxRecDepth 100000 in
theorem laws_FnExactProbeMeet.calls (k : Nat) (a0_0 : ByteArray) (A0_1 : Option Addr) (c0_1 : Nat) (l0_1 : List (S24)) (a1_0 : ByteArray) (A1_1 : Option Addr) (c1_1 : Nat) (l1_1 : List (S24)) (r : Bool) (w : World) (hr0_1 : Kd.C k24 w A0_1 l0_1.length l0_1) (hc0_1 : l0_1.length ≤ c0_1) (hr1_1 : Kd.C k24 w A1_1 l1_1.length l1_1) (hc1_1 : l1_1.length ≤ c1_1) (h : laws_FnExactProbeMeet.f k a0_0 l0_1 a1_0 l1_1 = some r) :
    Calls Try.prog 9 #[.agg #[.string a0_0, .slice A0_1 l0_1.length c0_1], .agg #[.string a1_0, .slice A1_1 l1_1.length c1_1]] w fun e w' => e = .returned (.bool r) ∧ Below w.heap.size w w' := by
  have hu34 := Try.underlying34
  have hu52 := Try.underlying52
  have hu39 := Try.underlying39
  have HR0_1 := Aside0.mk hr0_1
  have HC0_1 := Aside0.mk hc0_1
  clear hr0_1 hc0_1
  have HR1_1 := Aside0.mk hr1_1
  have HC1_1 := Aside0.mk hc1_1
  clear hr1_1 hc1_1
  have HB := ra (Below.refl w.heap.size w)
  have H : ((laws_szProbeTube.f a0_0 l0_1 1048576).bind fun t352 => (if t352 < 0 then (some true) else ((laws_szProbeTube.f a1_0 l1_1 t352).bind fun t353 => (if t353 < 0 then (some true) else ((laws_toProbeTube.f k a0_0 l0_1).bind fun bt354 => ((laws_toProbeTube.f k a1_0 l1_1).bind fun bt358 => ((spec_ProbeMeet.f k bt354.1 bt354.2 bt358.1 bt358.2).bind fun bt362 => ((laws_toProbeTube.f k a0_0 l0_1).bind fun bt369 => ((laws_toProbeTube.f k a1_0 l1_1).bind fun bt374 => ((impl_ProbeMeet.f k bt369.1 bt369.2 bt374.1 bt374.2).bind fun bt379 => ((laws_eqProbeClash.f bt379.1 bt379.2.1 bt379.2.2.1 bt379.2.2.2.1 bt379.2.2.2.2.1 bt362.1 bt362.2.1 bt362.2.2.1 bt362.2.2.2.1 bt362.2.2.2.2.1).bind fun t386 => (if t386 = true then (laws_FnExactProbeMeet.j0 k (bt379.2.2.2.2.2 != bt362.2.2.2.2.2) a0_0 l0_1 a1_0 l1_1 bt369.1 bt369.2 bt374.1 bt374.2) else (laws_FnExactProbeMeet.j0 k true a0_0 l0_1 a1_0 l1_1 bt369.1 bt369.2 bt374.1 bt374.2))))))))))))) = some r := h
  clear h
  obtain ⟨t352, A3, H⟩ := bo H
  by_cases c4 : t352 < 0
  · rw [if_pos c4] at H
    have c4b0 : decide (t352 < 0) = true := decide_eq_true c4
    clear c4
    obtain rfl := Option.some.inj H
    go_enter Try.func9, Try.ntmps9
    go_wp2_with (first | ((with_reducible refine gate_dst (N := 2) rfl ?_); refine be 2 #[.string a0_0, .slice A0_1 l0_1.length c0_1] 34 ?_; intro gb350 hg w5 hbox hb; have n0 := bs hb; have n1 := ra (hbox); have n2 := bz (w0 := w) hg; have n3 := bz (w0 := w) hg; clear HB; have HB := n0; have BK350 := n1; have GW350 := n2; have GE350 := n3; clear n0 n1 n2 n3; clear hb hbox hg) | ((with_reducible refine gate_dst (N := 3) rfl ?_); refine be 3 #[.string a1_0, .slice A1_1 l1_1.length c1_1] 34 ?_; intro gb351 hg w6 hbox hb; have n0 := bb (bk BK350) hb; have n1 := bs hb; have n2 := ra (hbox); have n3 := bz (w0 := w) hg; have n4 := bz (w0 := w) hg; have n5 := bn hg (bk BK350); have n6 := bm hg (bk BK350); clear BK350 HB; have BK350 := n0; have HB := n1; have BK351 := n2; have GW351 := n3; have GE351 := n4; have NB350_351 := n5; have NB351_350 := n6; clear n0 n1 n2 n3 n4 n5 n6; clear hb hbox hg; have hnb7 := NB350_351.out; have hnc7 := NB351_350.out; obtain ⟨hcz8_0, hcz8_1, hfz8_0, hfz8_1⟩ := zc2 BK350) | ((with_reducible refine gate_callee (f := 20) rfl ?_); refine gl (some 14) Try.func20 #[.agg #[.string a0_0, .slice A0_1 l0_1.length c0_1], .int .i64 1048576] ?_; (with_reducible refine (laws_szProbeTube.calls a0_0 _ _ l0_1 1048576 t352 _ ?side1 ?side2 A3.out).mono ?_); (case side1 => exact sc HR0_1); (case side2 => exact HC0_1.out); rintro e w9 ⟨rfl, hb⟩; refine ⟨_, rfl, ?_⟩; have n0 := bb (bk BK350) hb; have n1 := bb (bk BK351) hb; have n2 := bs hb; clear BK350 BK351 HB; have BK350 := n0; have BK351 := n1; have HB := n2; clear n0 n1 n2; (try clear hb); (try clear hb2); (try clear hk); (try clear hi)))
    go_ret
    exact ⟨re, bq⟩
  · rw [if_neg c4] at H
    have c4b0 : decide (t352 < 0) = false := decide_eq_false c4
    clear c4
    obtain ⟨t353, A10, H⟩ := bo H
    by_cases c11 : t353 < 0
    · rw [if_pos c11] at H
      have c11b0 : decide (t353 < 0) = true := decide_eq_true c11
      clear c11
      obtain rfl := Option.some.inj H
      go_enter Try.func9, Try.ntmps9
      go_wp2_with (first | ((with_reducible refine gate_dst (N := 2) rfl ?_); refine be 2 #[.string a0_0, .slice A0_1 l0_1.length c0_1] 34 ?_; intro gb350 hg w12 hbox hb; have n0 := bs hb; have n1 := ra (hbox); have n2 := bz (w0 := w) hg; have n3 := bz (w0 := w) hg; clear HB; have HB := n0; have BK350 := n1; have GW350 := n2; have GE350 := n3; clear n0 n1 n2 n3; clear hb hbox hg) | ((with_reducible refine gate_dst (N := 3) rfl ?_); refine be 3 #[.string a1_0, .slice A1_1 l1_1.length c1_1] 34 ?_; intro gb351 hg w13 hbox hb; have n0 := bb (bk BK350) hb; have n1 := bs hb; have n2 := ra (hbox); have n3 := bz (w0 := w) hg; have n4 := bz (w0 := w) hg; have n5 := bn hg (bk BK350); have n6 := bm hg (bk BK350); clear BK350 HB; have BK350 := n0; have HB := n1; have BK351 := n2; have GW351 := n3; have GE351 := n4; have NB350_351 := n5; have NB351_350 := n6; clear n0 n1 n2 n3 n4 n5 n6; clear hb hbox hg; have hnb14 := NB350_351.out; have hnc14 := NB351_350.out; obtain ⟨hcz15_0, hcz15_1, hfz15_0, hfz15_1⟩ := zc2 BK350) | ((with_reducible refine gate_callee (f := 20) rfl ?_); refine gl (some 14) Try.func20 #[.agg #[.string a0_0, .slice A0_1 l0_1.length c0_1], .int .i64 1048576] ?_; (with_reducible refine (laws_szProbeTube.calls a0_0 _ _ l0_1 1048576 t352 _ ?side1 ?side2 A3.out).mono ?_); (case side1 => exact sc HR0_1); (case side2 => exact HC0_1.out); rintro e w16 ⟨rfl, hb⟩; refine ⟨_, rfl, ?_⟩; have n0 := bb (bk BK350) hb; have n1 := bb (bk BK351) hb; have n2 := bs hb; clear BK350 BK351 HB; have BK350 := n0; have BK351 := n1; have HB := n2; clear n0 n1 n2; (try clear hb); (try clear hb2); (try clear hk); (try clear hi); obtain ⟨hcz17_0, hcz17_1, hfz17_0, hfz17_1⟩ := zc2 BK351) | ((with_reducible refine gate_callee (f := 20) rfl ?_); refine gl (some 19) Try.func20 #[.agg #[.string a1_0, .slice A1_1 l1_1.length c1_1], .int .i64 t352] ?_; (with_reducible refine (laws_szProbeTube.calls a1_0 _ _ l1_1 t352 t353 _ ?side1 ?side2 A10.out).mono ?_); (case side1 => exact sc HR1_1); (case side2 => exact HC1_1.out); rintro e w18 ⟨rfl, hb⟩; refine ⟨_, rfl, ?_⟩; have n0 := bb (bk BK350) hb; have n1 := bb (bk BK351) hb; have n2 := bs hb; clear BK350 BK351 HB; have BK350 := n0; have BK351 := n1; have HB := n2; clear n0 n1 n2; (try clear hb); (try clear hb2); (try clear hk); (try clear hi)))
      go_ret
      exact ⟨re, bq⟩
    · rw [if_neg c11] at H
      have c11b0 : decide (t353 < 0) = false := decide_eq_false c11
      clear c11
      obtain ⟨⟨t354, t355⟩, A19, H⟩ := bo H
      try dsimp only at H
      obtain ⟨⟨t358, t359⟩, A20, H⟩ := bo H
      try dsimp only at H
      obtain ⟨⟨t362, t363, t364, t365, t366, t367⟩, A21, H⟩ := bo H
      try dsimp only at H
      obtain ⟨⟨t369, t370⟩, A22, H⟩ := bo H
      try dsimp only at H
      obtain ⟨⟨t374, t375⟩, A23, H⟩ := bo H
      try dsimp only at H
      obtain ⟨⟨t379, t380, t381, t382, t383, t384⟩, A24, H⟩ := bo H
      try dsimp only at H
      have HC25 := Aside0.mk H
      clear H
      go_enter Try.func9, Try.ntmps9
      try go_wp2_with (first | ((with_reducible refine gate_dst (N := 2) rfl ?_); refine be 2 #[.string a0_0, .slice A0_1 l0_1.length c0_1] 34 ?_; intro gb350 hg w26 hbox hb; have n0 := bs hb; have n1 := ra (hbox); have n2 := bz (w0 := w) hg; have n3 := bz (w0 := w) hg; clear HB; have HB := n0; have BK350 := n1; have GW350 := n2; have GE350 := n3; clear n0 n1 n2 n3; clear hb hbox hg) | ((with_reducible refine gate_dst (N := 3) rfl ?_); refine be 3 #[.string a1_0, .slice A1_1 l1_1.length c1_1] 34 ?_; intro gb351 hg w27 hbox hb; have n0 := bb (bk BK350) hb; have n1 := bs hb; have n2 := ra (hbox); have n3 := bz (w0 := w) hg; have n4 := bz (w0 := w) hg; have n5 := bn hg (bk BK350); have n6 := bm hg (bk BK350); clear BK350 HB; have BK350 := n0; have HB := n1; have BK351 := n2; have GW351 := n3; have GE351 := n4; have NB350_351 := n5; have NB351_350 := n6; clear n0 n1 n2 n3 n4 n5 n6; clear hb hbox hg; have hnb28 := NB350_351.out; have hnc28 := NB351_350.out; obtain ⟨hcz29_0, hcz29_1, hfz29_0, hfz29_1⟩ := zc2 BK350) | ((with_reducible refine gate_callee (f := 20) rfl ?_); refine gl (some 14) Try.func20 #[.agg #[.string a0_0, .slice A0_1 l0_1.length c0_1], .int .i64 1048576] ?_; (with_reducible refine (laws_szProbeTube.calls a0_0 _ _ l0_1 1048576 t352 _ ?side1 ?side2 A3.out).mono ?_); (case side1 => exact sc HR0_1); (case side2 => exact HC0_1.out); rintro e w30 ⟨rfl, hb⟩; refine ⟨_, rfl, ?_⟩; have n0 := bb (bk BK350) hb; have n1 := bb (bk BK351) hb; have n2 := bs hb; clear BK350 BK351 HB; have BK350 := n0; have BK351 := n1; have HB := n2; clear n0 n1 n2; (try clear hb); (try clear hb2); (try clear hk); (try clear hi); obtain ⟨hcz31_0, hcz31_1, hfz31_0, hfz31_1⟩ := zc2 BK351) | ((with_reducible refine gate_callee (f := 20) rfl ?_); refine gl (some 19) Try.func20 #[.agg #[.string a1_0, .slice A1_1 l1_1.length c1_1], .int .i64 t352] ?_; (with_reducible refine (laws_szProbeTube.calls a1_0 _ _ l1_1 t352 t353 _ ?side1 ?side2 A10.out).mono ?_); (case side1 => exact sc HR1_1); (case side2 => exact HC1_1.out); rintro e w32 ⟨rfl, hb⟩; refine ⟨_, rfl, ?_⟩; have n0 := bb (bk BK350) hb; have n1 := bb (bk BK351) hb; have n2 := bs hb; clear BK350 BK351 HB; have BK350 := n0; have BK351 := n1; have HB := n2; clear n0 n1 n2; (try clear hb); (try clear hb2); (try clear hk); (try clear hi)))
      have n0 := ra (blk_drew BK350.out)
      have n1 := ra (blk_drew BK351.out)
      have n2 := ra (below_drew1 HB.out)
      clear BK350 BK351 HB
      have BK350 := n0
      have BK351 := n1
      have HB := n2
      clear n0 n1 n2
      refine start_ (n := 11) (S := fun w' => w'.cell? ⟨gb350, 0, none⟩ = some (.string a0_0) ∧ w'.cell? ⟨gb350, 1, none⟩ = some (.slice A0_1 l0_1.length c0_1) ∧ w'.cell? ⟨gb351, 0, none⟩ = some (.string a1_0) ∧ w'.cell? ⟨gb351, 1, none⟩ = some (.slice A1_1 l1_1.length c1_1)) (ds := []) (bl 11 0) (by kernel_rfl) rfl rfl ⟨(blk_cell BK350.out 0).trans rfl, (blk_cell BK350.out 1).trans rfl, (blk_cell BK351.out 0).trans rfl, (blk_cell BK351.out 1).trans rfl⟩ (fun hHeld => ?_); refine with_tabW laws_FnExactProbeMeet.tab8 laws_FnExactProbeMeet.bits8 (fun HT_ HW_ => ?_)
      generalize w32.drew = w33 at BK350 BK351 HB hHeld ⊢
      refine tk 0 23 (bl 11 1) ?_ hHeld
      refine tk 2 25 (bl 11 5) ?_ hHeld
      refine join_ (σ := Value × Value × Nat) 2 #[true, true, true, true, true, true, true, true, true, false, false] (fun s_ => [(24, .agg #[.string t354, s_.1]), (26, .agg #[.string t358, s_.2.1]), (27, .tuple #[.agg #[.string t362, .string t363, .int .i64 t364, .int .i64 t365, .int .i64 t366], .bool t367]), (6, .pointer (some ⟨s_.2.2, 0, none⟩)), (22, .tuple #[.agg #[.string t362, .string t363, .int .i64 t364, .int .i64 t365, .int .i64 t366], .bool t367]), (28, .agg #[.string t362, .string t363, .int .i64 t364, .int .i64 t365, .int .i64 t366]), (29, .bool t367)]) (fun s_ w' => (w'.cell? ⟨gb350, 0, none⟩ = some (.string a0_0) ∧ w'.cell? ⟨gb350, 1, none⟩ = some (.slice A0_1 l0_1.length c0_1) ∧ w'.cell? ⟨gb351, 0, none⟩ = some (.string a1_0) ∧ w'.cell? ⟨gb351, 1, none⟩ = some (.slice A1_1 l1_1.length c1_1)) ∧ (Kd.R k26 26 w' w.heap.size (fun k_ => some k_ ≠ (s_.2.1 : Value).ownBlock) s_.1 t355) ∧ (Kd.R k26 26 w' w.heap.size (fun k_ => some k_ ≠ (s_.1 : Value).ownBlock) s_.2.1 t359) ∧ (w'.heap[gb350]? = some (.cells #[.string a0_0, .slice A0_1 l0_1.length c0_1] 34 (0, 0))) ∧ (w'.heap[gb351]? = some (.cells #[.string a1_0, .slice A1_1 l1_1.length c1_1] 34 (0, 0))) ∧ (w'.heap[s_.2.2]? = some (.cells #[.string (⟨#[]⟩ : ByteArray), .string (⟨#[]⟩ : ByteArray), .int .i64 0, .int .i64 0, .int .i64 0] 52 (0, 0))) ∧ (w.heap.size ≤ s_.2.2) ∧ (w.heap.size ≤ s_.2.2) ∧ (gb350 ≠ s_.2.2) ∧ (s_.2.2 ≠ gb350) ∧ (gb351 ≠ s_.2.2) ∧ (s_.2.2 ≠ gb351) ∧ (Below w.heap.size w w')) ?_ ?_
      rotate_left
      · intro hCont
        refine two_ (i := 1) (j := 8) (Ni := some 24) (Nj := some 6) #[true, true, true, false, false, false, false, false, false, false, false] #[true, false, true, false, false, false, false, false, true, false, false] rfl rfl rfl rfl (two_of HT_.out (by kernel_rfl)) (by decide) (by decide) (fun K hK => ?_) (fun K hK => ?_)
        · skip
          refine gs Try.func22 #[.agg #[.string a0_0, .slice A0_1 l0_1.length c0_1]] ?_
          with_reducible refine (laws_toProbeTube.calls k a0_0 _ _ l0_1 t354 t355 _ ?side1 ?side2 A19.out).mono ?_
          (case side1 => exact sc HR0_1)
          (case side2 => exact HC0_1.out)
          rintro e w34 ⟨v356, rfl, ho0, hb⟩
          refine ⟨_, rfl, ?_⟩
          have n0 := ra (Kd.R_lower ho0 (below_size bq))
          have n1 := bb (bk BK350) hb
          have n2 := bb (bk BK351) hb
          have n3 := bs hb
          clear BK350 BK351 HB
          have HO357 := n0
          have BK350 := n1
          have BK351 := n2
          have HB := n3
          clear n0 n1 n2 n3
          (try clear hb)
          (try clear hb2)
          (try clear hk)
          (try clear hi)
          (try clear ho0)
          refine hK.out _ _ ⟨(blk_cell BK350.out 0).trans rfl, (blk_cell BK350.out 1).trans rfl, (blk_cell BK351.out 0).trans rfl, (blk_cell BK351.out 1).trans rfl⟩ (fun hHeld => ?_)
          clear hK K
          refine nm 24 ?_
          refine two_ (i := 3) (j := 8) (Ni := some 26) (Nj := some 6) #[true, true, true, true, false, false, false, false, false, false, false] #[true, true, true, false, false, false, false, false, true, false, false] rfl rfl rfl rfl (two_of HT_.out (by kernel_rfl)) (by decide) (by decide) (fun K hK => ?_) (fun K hK => ?_)
          · skip
            refine gs Try.func22 #[.agg #[.string a1_0, .slice A1_1 l1_1.length c1_1]] ?_
            with_reducible refine (laws_toProbeTube.calls k a1_0 _ _ l1_1 t358 t359 _ ?side1 ?side2 A20.out).mono ?_
            (case side1 => exact sc HR1_1)
            (case side2 => exact HC1_1.out)
            rintro e w35 ⟨v360, rfl, ho0, hb⟩
            refine ⟨_, rfl, ?_⟩
            have n0 := ra (Kd.R_elder' (rq HO357) (Kd.R_base ho0) hb)
            have n1 := ra (Kd.R_lower (Kd.R_new' ho0 (Kd.R_lt (rq HO357))) (below_size bq))
            have n2 := bb (bk BK350) hb
            have n3 := bb (bk BK351) hb
            have n4 := bs hb
            clear HO357 BK350 BK351 HB
            have HO357 := n0
            have HO361 := n1
            have BK350 := n2
            have BK351 := n3
            have HB := n4
            clear n0 n1 n2 n3 n4
            (try clear hb)
            (try clear hb2)
            (try clear hk)
            (try clear hi)
            (try clear ho0)
            obtain ⟨Ao36, co36, eo36⟩ := Kd.R_slice HO357.out
            (first | subst eo36 | (injection eo36 with f1_ f2_ f3_; have f4_ := f1_.symm; have f5_ := f3_.symm; clear f1_ f2_ f3_; subst f4_; subst f5_))
            obtain ⟨Ao37, co37, eo37⟩ := Kd.R_slice HO361.out
            (first | subst eo37 | (injection eo37 with f1_ f2_ f3_; have f4_ := f1_.symm; have f5_ := f3_.symm; clear f1_ f2_ f3_; subst f4_; subst f5_))
            refine hK.out _ _ ⟨(blk_cell BK350.out 0).trans rfl, (blk_cell BK350.out 1).trans rfl, (blk_cell BK351.out 0).trans rfl, (blk_cell BK351.out 1).trans rfl⟩ (fun hHeld => ?_)
            clear hK K
            refine nm 26 ?_
            refine two_ (i := 4) (j := 8) (Ni := some 27) (Nj := some 6) #[true, true, true, true, true, false, false, false, false, false, false] #[true, true, true, true, false, false, false, false, true, false, false] rfl rfl rfl rfl (two_of HT_.out (by kernel_rfl)) (by decide) (by decide) (fun K hK => ?_) (fun K hK => ?_)
            · skip
              refine gs Try.func32 #[.agg #[.string t354, .slice Ao36 t355.length co36], .agg #[.string t358, .slice Ao37 t359.length co37]] ?_
              with_reducible refine (spec_ProbeMeet.calls k t354 _ _ t355 t358 _ _ t359 t362 t363 t364 t365 t366 t367 _ ?side1 ?side2 ?side3 ?side4 A21.out).mono ?_
              (case side1 => exact sr HO357)
              (case side2 => exact (Kd.R_reads' HO357.out).2.1)
              (case side3 => exact sr HO361)
              (case side4 => exact (Kd.R_reads' HO361.out).2.1)
              rintro e w38 ⟨rfl, hb⟩
              refine ⟨_, rfl, ?_⟩
              have n0 := ra (Kd.R_below (rq HO357) hb)
              have n1 := ra (Kd.R_below (rq HO361) hb)
              have n2 := bb (bk BK350) hb
              have n3 := bb (bk BK351) hb
              have n4 := bs hb
              clear HO357 HO361 BK350 BK351 HB
              have HO357 := n0
              have HO361 := n1
              have BK350 := n2
              have BK351 := n3
              have HB := n4
              clear n0 n1 n2 n3 n4
              (try clear hb)
              (try clear hb2)
              (try clear hk)
              (try clear hi)
              refine hK.out _ _ ⟨(blk_cell BK350.out 0).trans rfl, (blk_cell BK350.out 1).trans rfl, (blk_cell BK351.out 0).trans rfl, (blk_cell BK351.out 1).trans rfl⟩ (fun hHeld => ?_)
              clear hK K
              refine nm 27 ?_
              refine pu 5 22 (bl 11 63) ?_
              refine pu 6 28 (bl 11 127) ?_
              refine pu 7 29 (bl 11 255) ?_
              refine oe 8 6 (bl 11 511) (fun K hK => ?_)
              refine box_step ?hg (N := 6) ?hd (cs := #[.string (⟨#[]⟩ : ByteArray), .string (⟨#[]⟩ : ByteArray), .int .i64 0, .int .i64 0, .int .i64 0]) (t := 52) ?hr ?_; (case hd => rfl); (case hg => rfl); (case hr => first | (go_simp; done) | (go_simp; rfl))
              intro gb368 hg w39 hbox hb
              have n0 := ra (Kd.R_below (rq HO357) hb)
              have n1 := ra (Kd.R_below (rq HO361) hb)
              have n2 := bb (bk BK350) hb
              have n3 := bb (bk BK351) hb
              have n4 := bs hb
              have n5 := ra (hbox)
              have n6 := bz (w0 := w) hg
              have n7 := bz (w0 := w) hg
              have n8_ := bn hg (bk BK350)
              have n9_ := bm hg (bk BK350)
              have n10_ := bn hg (bk BK351)
              have n11_ := bm hg (bk BK351)
              clear HO357 HO361 BK350 BK351 HB
              have HO357 := n0
              have HO361 := n1
              have BK350 := n2
              have BK351 := n3
              have HB := n4
              have BK368 := n5
              have GW368 := n6
              have GE368 := n7
              have NB350_368 := n8_
              have NB368_350 := n9_
              have NB351_368 := n10_
              have NB368_351 := n11_
              clear n0 n1 n2 n3 n4 n5 n6 n7 n8_ n9_ n10_ n11_
              clear hb hbox hg
              refine hK.out _ _ ⟨(blk_cell BK350.out 0).trans rfl, (blk_cell BK350.out 1).trans rfl, (blk_cell BK351.out 0).trans rfl, (blk_cell BK351.out 1).trans rfl⟩ (fun hHeld => ?_)
              clear hK K
              refine nm 6 ?_
              exact norm_ (by simp only [putAll, Act.put, List.setIfInBounds_toArray, List.set_cons_zero, List.set_cons_succ]) (hCont (.slice Ao36 t355.length co36, .slice Ao37 t359.length co37, gb368) _ ⟨hHeld, (by (with_reducible repeat (first | apply Kd.R_alloc | apply Kd.R_drewN | apply Kd.R_drew)); exact Kd.R_mono HO357.out (fun _ hk => hk.2)), (by (with_reducible repeat (first | apply Kd.R_alloc | apply Kd.R_drewN | apply Kd.R_drew)); exact Kd.R_mono HO361.out (fun _ hk => hk.2)), (bk BK350), (bk BK351), (bk BK368), GW368.out, GE368.out, NB350_368.out, NB368_350.out, NB351_368.out, NB368_351.out, bq⟩)
            · skip
              refine box_step ?hg (N := 6) ?hd (cs := #[.string (⟨#[]⟩ : ByteArray), .string (⟨#[]⟩ : ByteArray), .int .i64 0, .int .i64 0, .int .i64 0]) (t := 52) ?hr ?_; (case hd => rfl); (case hg => rfl); (case hr => first | (go_simp; done) | (go_simp; rfl))
              intro gb368 hg w36 hbox hb
              have n0 := ra (Kd.R_below (rq HO357) hb)
              have n1 := ra (Kd.R_below (rq HO361) hb)
              have n2 := bb (bk BK350) hb
              have n3 := bb (bk BK351) hb
              have n4 := bs hb
              have n5 := ra (hbox)
              have n6 := bz (w0 := w) hg
              have n7 := bz (w0 := w) hg
              have n8_ := bn hg (bk BK350)
              have n9_ := bm hg (bk BK350)
              have n10_ := bn hg (bk BK351)
              have n11_ := bm hg (bk BK351)
              clear HO357 HO361 BK350 BK351 HB
              have HO357 := n0
              have HO361 := n1
              have BK350 := n2
              have BK351 := n3
              have HB := n4
              have BK368 := n5
              have GW368 := n6
              have GE368 := n7
              have NB350_368 := n8_
              have NB368_350 := n9_
              have NB351_368 := n10_
              have NB368_351 := n11_
              clear n0 n1 n2 n3 n4 n5 n6 n7 n8_ n9_ n10_ n11_
              clear hb hbox hg
              obtain ⟨Ao37, co37, eo37⟩ := Kd.R_slice HO357.out
              (first | subst eo37 | (injection eo37 with f1_ f2_ f3_; have f4_ := f1_.symm; have f5_ := f3_.symm; clear f1_ f2_ f3_; subst f4_; subst f5_))
              obtain ⟨Ao38, co38, eo38⟩ := Kd.R_slice HO361.out
              (first | subst eo38 | (injection eo38 with f1_ f2_ f3_; have f4_ := f1_.symm; have f5_ := f3_.symm; clear f1_ f2_ f3_; subst f4_; subst f5_))
              refine hK.out _ _ ⟨(blk_cell BK350.out 0).trans rfl, (blk_cell BK350.out 1).trans rfl, (blk_cell BK351.out 0).trans rfl, (blk_cell BK351.out 1).trans rfl⟩ (fun hHeld => ?_)
              clear hK K
              refine nm 6 ?_
              refine oe 4 27 (bl 11 287) (fun K hK => ?_)
              refine gs Try.func32 #[.agg #[.string t354, .slice Ao37 t355.length co37], .agg #[.string t358, .slice Ao38 t359.length co38]] ?_
              with_reducible refine (spec_ProbeMeet.calls k t354 _ _ t355 t358 _ _ t359 t362 t363 t364 t365 t366 t367 _ ?side1 ?side2 ?side3 ?side4 A21.out).mono ?_
              (case side1 => exact sr HO357)
              (case side2 => exact (Kd.R_reads' HO357.out).2.1)
              (case side3 => exact sr HO361)
              (case side4 => exact (Kd.R_reads' HO361.out).2.1)
              rintro e w39 ⟨rfl, hb⟩
              refine ⟨_, rfl, ?_⟩
              have n0 := ra (Kd.R_below (rq HO357) hb)
              have n1 := ra (Kd.R_below (rq HO361) hb)
              have n2 := bb (bk BK350) hb
              have n3 := bb (bk BK351) hb
              have n4 := bb (bk BK368) hb
              have n5 := bs hb
              clear HO357 HO361 BK350 BK351 BK368 HB
              have HO357 := n0
              have HO361 := n1
              have BK350 := n2
              have BK351 := n3
              have BK368 := n4
              have HB := n5
              clear n0 n1 n2 n3 n4 n5
              (try clear hb)
              (try clear hb2)
              (try clear hk)
              (try clear hi)
              refine hK.out _ _ ⟨(blk_cell BK350.out 0).trans rfl, (blk_cell BK350.out 1).trans rfl, (blk_cell BK351.out 0).trans rfl, (blk_cell BK351.out 1).trans rfl⟩ (fun hHeld => ?_)
              clear hK K
              refine nm 27 ?_
              refine pu 5 22 (bl 11 319) ?_
              refine pu 6 28 (bl 11 383) ?_
              refine pu 7 29 (bl 11 511) ?_
              exact norm_ (by simp only [putAll, Act.put, List.setIfInBounds_toArray, List.set_cons_zero, List.set_cons_succ]) (hCont (.slice Ao37 t355.length co37, .slice Ao38 t359.length co38, gb368) _ ⟨hHeld, (by (with_reducible repeat (first | apply Kd.R_alloc | apply Kd.R_drewN | apply Kd.R_drew)); exact Kd.R_mono HO357.out (fun _ hk => hk.2)), (by (with_reducible repeat (first | apply Kd.R_alloc | apply Kd.R_drewN | apply Kd.R_drew)); exact Kd.R_mono HO361.out (fun _ hk => hk.2)), (bk BK350), (bk BK351), (bk BK368), GW368.out, GE368.out, NB350_368.out, NB368_350.out, NB351_368.out, NB368_351.out, bq⟩)
          · skip
            refine box_step ?hg (N := 6) ?hd (cs := #[.string (⟨#[]⟩ : ByteArray), .string (⟨#[]⟩ : ByteArray), .int .i64 0, .int .i64 0, .int .i64 0]) (t := 52) ?hr ?_; (case hd => rfl); (case hg => rfl); (case hr => first | (go_simp; done) | (go_simp; rfl))
            intro gb368 hg w35 hbox hb
            have n0 := ra (Kd.R_below (rq HO357) hb)
            have n1 := bb (bk BK350) hb
            have n2 := bb (bk BK351) hb
            have n3 := bs hb
            have n4 := ra (hbox)
            have n5 := bz (w0 := w) hg
            have n6 := bz (w0 := w) hg
            have n7 := bn hg (bk BK350)
            have n8_ := bm hg (bk BK350)
            have n9_ := bn hg (bk BK351)
            have n10_ := bm hg (bk BK351)
            clear HO357 BK350 BK351 HB
            have HO357 := n0
            have BK350 := n1
            have BK351 := n2
            have HB := n3
            have BK368 := n4
            have GW368 := n5
            have GE368 := n6
            have NB350_368 := n7
            have NB368_350 := n8_
            have NB351_368 := n9_
            have NB368_351 := n10_
            clear n0 n1 n2 n3 n4 n5 n6 n7 n8_ n9_ n10_
            clear hb hbox hg
            refine hK.out _ _ ⟨(blk_cell BK350.out 0).trans rfl, (blk_cell BK350.out 1).trans rfl, (blk_cell BK351.out 0).trans rfl, (blk_cell BK351.out 1).trans rfl⟩ (fun hHeld => ?_)
            clear hK K
            refine nm 6 ?_
            refine oe 3 26 (bl 11 271) (fun K hK => ?_)
            refine gs Try.func22 #[.agg #[.string a1_0, .slice A1_1 l1_1.length c1_1]] ?_
            with_reducible refine (laws_toProbeTube.calls k a1_0 _ _ l1_1 t358 t359 _ ?side1 ?side2 A20.out).mono ?_
            (case side1 => exact sc HR1_1)
            (case side2 => exact HC1_1.out)
            rintro e w36 ⟨v360, rfl, ho0, hb⟩
            refine ⟨_, rfl, ?_⟩
            have n0 := ra (Kd.R_elder' (rq HO357) (Kd.R_base ho0) hb)
            have n1 := ra (Kd.R_lower (Kd.R_new' ho0 (Kd.R_lt (rq HO357))) (below_size bq))
            have n2 := bb (bk BK350) hb
            have n3 := bb (bk BK351) hb
            have n4 := bb (bk BK368) hb
            have n5 := bs hb
            clear HO357 BK350 BK351 BK368 HB
            have HO357 := n0
            have HO361 := n1
            have BK350 := n2
            have BK351 := n3
            have BK368 := n4
            have HB := n5
            clear n0 n1 n2 n3 n4 n5
            (try clear hb)
            (try clear hb2)
            (try clear hk)
            (try clear hi)
            (try clear ho0)
            obtain ⟨Ao37, co37, eo37⟩ := Kd.R_slice HO357.out
            (first | subst eo37 | (injection eo37 with f1_ f2_ f3_; have f4_ := f1_.symm; have f5_ := f3_.symm; clear f1_ f2_ f3_; subst f4_; subst f5_))
            obtain ⟨Ao38, co38, eo38⟩ := Kd.R_slice HO361.out
            (first | subst eo38 | (injection eo38 with f1_ f2_ f3_; have f4_ := f1_.symm; have f5_ := f3_.symm; clear f1_ f2_ f3_; subst f4_; subst f5_))
            refine hK.out _ _ ⟨(blk_cell BK350.out 0).trans rfl, (blk_cell BK350.out 1).trans rfl, (blk_cell BK351.out 0).trans rfl, (blk_cell BK351.out 1).trans rfl⟩ (fun hHeld => ?_)
            clear hK K
            refine nm 26 ?_
            refine oe 4 27 (bl 11 287) (fun K hK => ?_)
            refine gs Try.func32 #[.agg #[.string t354, .slice Ao37 t355.length co37], .agg #[.string t358, .slice Ao38 t359.length co38]] ?_
            with_reducible refine (spec_ProbeMeet.calls k t354 _ _ t355 t358 _ _ t359 t362 t363 t364 t365 t366 t367 _ ?side1 ?side2 ?side3 ?side4 A21.out).mono ?_
            (case side1 => exact sr HO357)
            (case side2 => exact (Kd.R_reads' HO357.out).2.1)
            (case side3 => exact sr HO361)
            (case side4 => exact (Kd.R_reads' HO361.out).2.1)
            rintro e w39 ⟨rfl, hb⟩
            refine ⟨_, rfl, ?_⟩
            have n0 := ra (Kd.R_below (rq HO357) hb)
            have n1 := ra (Kd.R_below (rq HO361) hb)
            have n2 := bb (bk BK350) hb
            have n3 := bb (bk BK351) hb
            have n4 := bb (bk BK368) hb
            have n5 := bs hb
            clear HO357 HO361 BK350 BK351 BK368 HB
            have HO357 := n0
            have HO361 := n1
            have BK350 := n2
            have BK351 := n3
            have BK368 := n4
            have HB := n5
            clear n0 n1 n2 n3 n4 n5
            (try clear hb)
            (try clear hb2)
            (try clear hk)
            (try clear hi)
            refine hK.out _ _ ⟨(blk_cell BK350.out 0).trans rfl, (blk_cell BK350.out 1).trans rfl, (blk_cell BK351.out 0).trans rfl, (blk_cell BK351.out 1).trans rfl⟩ (fun hHeld => ?_)
            clear hK K
            refine nm 27 ?_
            refine pu 5 22 (bl 11 319) ?_
            refine pu 6 28 (bl 11 383) ?_
            refine pu 7 29 (bl 11 511) ?_
            exact norm_ (by simp only [putAll, Act.put, List.setIfInBounds_toArray, List.set_cons_zero, List.set_cons_succ]) (hCont (.slice Ao37 t355.length co37, .slice Ao38 t359.length co38, gb368) _ ⟨hHeld, (by (with_reducible repeat (first | apply Kd.R_alloc | apply Kd.R_drewN | apply Kd.R_drew)); exact Kd.R_mono HO357.out (fun _ hk => hk.2)), (by (with_reducible repeat (first | apply Kd.R_alloc | apply Kd.R_drewN | apply Kd.R_drew)); exact Kd.R_mono HO361.out (fun _ hk => hk.2)), (bk BK350), (bk BK351), (bk BK368), GW368.out, GE368.out, NB350_368.out, NB368_350.out, NB351_368.out, NB368_351.out, bq⟩)
        · skip
          refine box_step ?hg (N := 6) ?hd (cs := #[.string (⟨#[]⟩ : ByteArray), .string (⟨#[]⟩ : ByteArray), .int .i64 0, .int .i64 0, .int .i64 0]) (t := 52) ?hr ?_; (case hd => rfl); (case hg => rfl); (case hr => first | (go_simp; done) | (go_simp; rfl))
          intro gb368 hg w34 hbox hb
          have n0 := bb (bk BK350) hb
          have n1 := bb (bk BK351) hb
          have n2 := bs hb
          have n3 := ra (hbox)
          have n4 := bz (w0 := w) hg
          have n5 := bz (w0 := w) hg
          have n6 := bn hg (bk BK350)
          have n7 := bm hg (bk BK350)
          have n8_ := bn hg (bk BK351)
          have n9_ := bm hg (bk BK351)
          clear BK350 BK351 HB
          have BK350 := n0
          have BK351 := n1
          have HB := n2
          have BK368 := n3
          have GW368 := n4
          have GE368 := n5
          have NB350_368 := n6
          have NB368_350 := n7
          have NB351_368 := n8_
          have NB368_351 := n9_
          clear n0 n1 n2 n3 n4 n5 n6 n7 n8_ n9_
          clear hb hbox hg
          refine hK.out _ _ ⟨(blk_cell BK350.out 0).trans rfl, (blk_cell BK350.out 1).trans rfl, (blk_cell BK351.out 0).trans rfl, (blk_cell BK351.out 1).trans rfl⟩ (fun hHeld => ?_)
          clear hK K
          refine nm 6 ?_
          refine oe 1 24 (bl 11 263) (fun K hK => ?_)
          refine gs Try.func22 #[.agg #[.string a0_0, .slice A0_1 l0_1.length c0_1]] ?_
          with_reducible refine (laws_toProbeTube.calls k a0_0 _ _ l0_1 t354 t355 _ ?side1 ?side2 A19.out).mono ?_
          (case side1 => exact sc HR0_1)
          (case side2 => exact HC0_1.out)
          rintro e w35 ⟨v356, rfl, ho0, hb⟩
          refine ⟨_, rfl, ?_⟩
          have n0 := ra (Kd.R_lower ho0 (below_size bq))
          have n1 := bb (bk BK350) hb
          have n2 := bb (bk BK351) hb
          have n3 := bb (bk BK368) hb
          have n4 := bs hb
          clear BK350 BK351 BK368 HB
          have HO357 := n0
          have BK350 := n1
          have BK351 := n2
          have BK368 := n3
          have HB := n4
          clear n0 n1 n2 n3 n4
          (try clear hb)
          (try clear hb2)
          (try clear hk)
          (try clear hi)
          (try clear ho0)
          refine hK.out _ _ ⟨(blk_cell BK350.out 0).trans rfl, (blk_cell BK350.out 1).trans rfl, (blk_cell BK351.out 0).trans rfl, (blk_cell BK351.out 1).trans rfl⟩ (fun hHeld => ?_)
          clear hK K
          refine nm 24 ?_
          refine oe 3 26 (bl 11 271) (fun K hK => ?_)
          refine gs Try.func22 #[.agg #[.string a1_0, .slice A1_1 l1_1.length c1_1]] ?_
          with_reducible refine (laws_toProbeTube.calls k a1_0 _ _ l1_1 t358 t359 _ ?side1 ?side2 A20.out).mono ?_
          (case side1 => exact sc HR1_1)
          (case side2 => exact HC1_1.out)
          rintro e w36 ⟨v360, rfl, ho0, hb⟩
          refine ⟨_, rfl, ?_⟩
          have n0 := ra (Kd.R_elder' (rq HO357) (Kd.R_base ho0) hb)
          have n1 := ra (Kd.R_lower (Kd.R_new' ho0 (Kd.R_lt (rq HO357))) (below_size bq))
          have n2 := bb (bk BK350) hb
          have n3 := bb (bk BK351) hb
          have n4 := bb (bk BK368) hb
          have n5 := bs hb
          clear HO357 BK350 BK351 BK368 HB
          have HO357 := n0
          have HO361 := n1
          have BK350 := n2
          have BK351 := n3
          have BK368 := n4
          have HB := n5
          clear n0 n1 n2 n3 n4 n5
          (try clear hb)
          (try clear hb2)
          (try clear hk)
          (try clear hi)
          (try clear ho0)
          obtain ⟨Ao37, co37, eo37⟩ := Kd.R_slice HO357.out
          (first | subst eo37 | (injection eo37 with f1_ f2_ f3_; have f4_ := f1_.symm; have f5_ := f3_.symm; clear f1_ f2_ f3_; subst f4_; subst f5_))
          obtain ⟨Ao38, co38, eo38⟩ := Kd.R_slice HO361.out
          (first | subst eo38 | (injection eo38 with f1_ f2_ f3_; have f4_ := f1_.symm; have f5_ := f3_.symm; clear f1_ f2_ f3_; subst f4_; subst f5_))
          refine hK.out _ _ ⟨(blk_cell BK350.out 0).trans rfl, (blk_cell BK350.out 1).trans rfl, (blk_cell BK351.out 0).trans rfl, (blk_cell BK351.out 1).trans rfl⟩ (fun hHeld => ?_)
          clear hK K
          refine nm 26 ?_
          refine oe 4 27 (bl 11 287) (fun K hK => ?_)
          refine gs Try.func32 #[.agg #[.string t354, .slice Ao37 t355.length co37], .agg #[.string t358, .slice Ao38 t359.length co38]] ?_
          with_reducible refine (spec_ProbeMeet.calls k t354 _ _ t355 t358 _ _ t359 t362 t363 t364 t365 t366 t367 _ ?side1 ?side2 ?side3 ?side4 A21.out).mono ?_
          (case side1 => exact sr HO357)
          (case side2 => exact (Kd.R_reads' HO357.out).2.1)
          (case side3 => exact sr HO361)
          (case side4 => exact (Kd.R_reads' HO361.out).2.1)
          rintro e w39 ⟨rfl, hb⟩
          refine ⟨_, rfl, ?_⟩
          have n0 := ra (Kd.R_below (rq HO357) hb)
          have n1 := ra (Kd.R_below (rq HO361) hb)
          have n2 := bb (bk BK350) hb
          have n3 := bb (bk BK351) hb
          have n4 := bb (bk BK368) hb
          have n5 := bs hb
          clear HO357 HO361 BK350 BK351 BK368 HB
          have HO357 := n0
          have HO361 := n1
          have BK350 := n2
          have BK351 := n3
          have BK368 := n4
          have HB := n5
          clear n0 n1 n2 n3 n4 n5
          (try clear hb)
          (try clear hb2)
          (try clear hk)
          (try clear hi)
          refine hK.out _ _ ⟨(blk_cell BK350.out 0).trans rfl, (blk_cell BK350.out 1).trans rfl, (blk_cell BK351.out 0).trans rfl, (blk_cell BK351.out 1).trans rfl⟩ (fun hHeld => ?_)
          clear hK K
          refine nm 27 ?_
          refine pu 5 22 (bl 11 319) ?_
          refine pu 6 28 (bl 11 383) ?_
          refine pu 7 29 (bl 11 511) ?_
          exact norm_ (by simp only [putAll, Act.put, List.setIfInBounds_toArray, List.set_cons_zero, List.set_cons_succ]) (hCont (.slice Ao37 t355.length co37, .slice Ao38 t359.length co38, gb368) _ ⟨hHeld, (by (with_reducible repeat (first | apply Kd.R_alloc | apply Kd.R_drewN | apply Kd.R_drew)); exact Kd.R_mono HO357.out (fun _ hk => hk.2)), (by (with_reducible repeat (first | apply Kd.R_alloc | apply Kd.R_drewN | apply Kd.R_drew)); exact Kd.R_mono HO361.out (fun _ hk => hk.2)), (bk BK350), (bk BK351), (bk BK368), GW368.out, GE368.out, NB350_368.out, NB368_350.out, NB351_368.out, NB368_351.out, bq⟩)
      rintro ⟨v356, v360, gb368⟩ w40 ⟨hS_, h0_, h1_, h2_, h3_, h4_, h5_, h6_, h7_, h8_, h9_, h10_, h11_⟩
      have n0 : Aside0 (Kd.R k26 26 w40 w.heap.size (fun k_ => some k_ ≠ (v360 : Value).ownBlock) v356 t355) := ⟨h0_⟩
      have n1 : Aside0 (Kd.R k26 26 w40 w.heap.size (fun k_ => some k_ ≠ (v356 : Value).ownBlock) v360 t359) := ⟨h1_⟩
      have n2 : Aside0 (w40.heap[gb350]? = some (.cells #[.string a0_0, .slice A0_1 l0_1.length c0_1] 34 (0, 0))) := ⟨h2_⟩
      have n3 : Aside0 (w40.heap[gb351]? = some (.cells #[.string a1_0, .slice A1_1 l1_1.length c1_1] 34 (0, 0))) := ⟨h3_⟩
      have n4 : Aside0 (w40.heap[gb368]? = some (.cells #[.string (⟨#[]⟩ : ByteArray), .string (⟨#[]⟩ : ByteArray), .int .i64 0, .int .i64 0, .int .i64 0] 52 (0, 0))) := ⟨h4_⟩
      have n5 : Aside0 (w.heap.size ≤ gb368) := ⟨h5_⟩
      have n6 : Aside0 (w.heap.size ≤ gb368) := ⟨h6_⟩
      have n7 : Aside0 (gb350 ≠ gb368) := ⟨h7_⟩
      have n8_ : Aside0 (gb368 ≠ gb350) := ⟨h8_⟩
      have n9_ : Aside0 (gb351 ≠ gb368) := ⟨h9_⟩
      have n10_ : Aside0 (gb368 ≠ gb351) := ⟨h10_⟩
      have n11_ : Aside0 (Below w.heap.size w w40) := ⟨h11_⟩
      clear BK350 BK351 HB
      clear h0_ h1_ h2_ h3_ h4_ h5_ h6_ h7_ h8_ h9_ h10_ h11_
      have HO357 := n0
      have HO361 := n1
      have BK350 := n2
      have BK351 := n3
      have BK368 := n4
      have GW368 := n5
      have GE368 := n6
      have NB350_368 := n7
      have NB368_350 := n8_
      have NB351_368 := n9_
      have NB368_351 := n10_
      have HB := n11_
      clear n0 n1 n2 n3 n4 n5 n6 n7 n8_ n9_ n10_ n11_
      have hHeld : w40.cell? ⟨gb350, 0, none⟩ = some (.string a0_0) ∧ w40.cell? ⟨gb350, 1, none⟩ = some (.slice A0_1 l0_1.length c0_1) ∧ w40.cell? ⟨gb351, 0, none⟩ = some (.string a1_0) ∧ w40.cell? ⟨gb351, 1, none⟩ = some (.slice A1_1 l1_1.length c1_1) := hS_
      refine norm_ (a' := ?_) ?_ ?_
      rotate_left
      · simp only [putAll, Act.put, List.setIfInBounds_toArray, List.set_cons_zero, List.set_cons_succ]
        rfl
      refine one_ (i := 9) (N := none) #[true, true, true, true, true, true, true, true, true, true, false] rfl rfl (one_of HT_.out (by kernel_rfl)) (by decide) (fun K hK => ?_)
      have hs41 : w40.cell? ⟨gb368, 0, none⟩ = some (.string (⟨#[]⟩ : ByteArray)) := (blk_cell BK368.out 0).trans rfl
      have hfs41 := blk_frozen BK368.out 0
      have hns41_0 := NB350_368.out
      have hns41_1 := NB351_368.out
      have hms41_0 := NB368_350.out
      have hms41_1 := NB368_351.out
      have hs42 : w40.cell? ⟨gb368, 1, none⟩ = some (.string (⟨#[]⟩ : ByteArray)) := (blk_cell BK368.out 1).trans rfl
      have hfs42 := blk_frozen BK368.out 1
      have hns42_0 := NB350_368.out
      have hns42_1 := NB351_368.out
      have hms42_0 := NB368_350.out
      have hms42_1 := NB368_351.out
      have hs43 : w40.cell? ⟨gb368, 2, none⟩ = some (.int .i64 0) := (blk_cell BK368.out 2).trans rfl
      have hfs43 := blk_frozen BK368.out 2
      have hns43_0 := NB350_368.out
      have hns43_1 := NB351_368.out
      have hms43_0 := NB368_350.out
      have hms43_1 := NB368_351.out
      have hs44 : w40.cell? ⟨gb368, 3, none⟩ = some (.int .i64 0) := (blk_cell BK368.out 3).trans rfl
      have hfs44 := blk_frozen BK368.out 3
      have hns44_0 := NB350_368.out
      have hns44_1 := NB351_368.out
      have hms44_0 := NB368_350.out
      have hms44_1 := NB368_351.out
      have hs45 : w40.cell? ⟨gb368, 4, none⟩ = some (.int .i64 0) := (blk_cell BK368.out 4).trans rfl
      have hfs45 := blk_frozen BK368.out 4
      have hns45_0 := NB350_368.out
      have hns45_1 := NB351_368.out
      have hms45_0 := NB368_350.out
      have hms45_1 := NB368_351.out
      refine skip_ (w1 := ?_) (by rfl) rfl ?_ ?_
      rotate_left
      · go_simp
        rfl
      refine hK.out _ _ ⟨((cell_far (p := ⟨gb368, _, none⟩) NB350_368.out _).trans (((cell_far (p := ⟨gb368, _, none⟩) NB350_368.out _).trans (((cell_far (p := ⟨gb368, _, none⟩) NB350_368.out _).trans (((cell_far (p := ⟨gb368, _, none⟩) NB350_368.out _).trans (((cell_far (p := ⟨gb368, _, none⟩) NB350_368.out _).trans (hHeld.1)))))))))), ((cell_far (p := ⟨gb368, _, none⟩) NB350_368.out _).trans (((cell_far (p := ⟨gb368, _, none⟩) NB350_368.out _).trans (((cell_far (p := ⟨gb368, _, none⟩) NB350_368.out _).trans (((cell_far (p := ⟨gb368, _, none⟩) NB350_368.out _).trans (((cell_far (p := ⟨gb368, _, none⟩) NB350_368.out _).trans (hHeld.2.1)))))))))), ((cell_far (p := ⟨gb368, _, none⟩) NB351_368.out _).trans (((cell_far (p := ⟨gb368, _, none⟩) NB351_368.out _).trans (((cell_far (p := ⟨gb368, _, none⟩) NB351_368.out _).trans (((cell_far (p := ⟨gb368, _, none⟩) NB351_368.out _).trans (((cell_far (p := ⟨gb368, _, none⟩) NB351_368.out _).trans (hHeld.2.2.1)))))))))), ((cell_far (p := ⟨gb368, _, none⟩) NB351_368.out _).trans (((cell_far (p := ⟨gb368, _, none⟩) NB351_368.out _).trans (((cell_far (p := ⟨gb368, _, none⟩) NB351_368.out _).trans (((cell_far (p := ⟨gb368, _, none⟩) NB351_368.out _).trans (((cell_far (p := ⟨gb368, _, none⟩) NB351_368.out _).trans (hHeld.2.2.2))))))))))⟩ (fun hHeld => ?_)
      clear hK K
      refine pu 10 7 (bl 11 2047) ?_
      refine done_ (done_of HT_.out (by kernel_rfl)) ?_
      have hnb46 := NB350_368.out
      have hnc46 := NB368_350.out
      obtain ⟨hcz47_0, hcz47_1, hfz47_0, hfz47_1⟩ := zc2 BK350
      go_upto_region 12 with (first | ((with_reducible refine gate_callee (f := 22) rfl ?_); refine gl (some 31) Try.func22 #[.agg #[.string a0_0, .slice A0_1 l0_1.length c0_1]] ?_; (with_reducible refine (laws_toProbeTube.calls k a0_0 _ _ l0_1 t369 t370 _ ?side1 ?side2 A22.out).mono ?_); (case side1 => exact Kd.C_below HR0_1.out bq); (case side2 => exact HC0_1.out); rintro e w48 ⟨v371, rfl, ho0, hb⟩; refine ⟨_, rfl, ?_⟩; have n0 := ra (Kd.R_elder' (rr (Kd.R_mono (Kd.R_far (p := ⟨gb368, 4, none⟩) (Kd.R_far (p := ⟨gb368, 3, none⟩) (Kd.R_far (p := ⟨gb368, 2, none⟩) (Kd.R_far (p := ⟨gb368, 1, none⟩) (Kd.R_far (p := ⟨gb368, 0, none⟩) (Kd.R_types HO357.out BK368.out (by decide)) (fun _ hk => hk.2) (.string t362)) (fun _ hk => hk.2) (.string t363)) (fun _ hk => hk.2) (.int .i64 t364)) (fun _ hk => hk.2) (.int .i64 t365)) (fun _ hk => hk.2) (.int .i64 t366)) (fun _ h_ => h_.1))) (Kd.R_base ho0) hb); have n1 := ra (Kd.R_elder' (rr (Kd.R_mono (Kd.R_far (p := ⟨gb368, 4, none⟩) (Kd.R_far (p := ⟨gb368, 3, none⟩) (Kd.R_far (p := ⟨gb368, 2, none⟩) (Kd.R_far (p := ⟨gb368, 1, none⟩) (Kd.R_far (p := ⟨gb368, 0, none⟩) (Kd.R_types HO361.out BK368.out (by decide)) (fun _ hk => hk.2) (.string t362)) (fun _ hk => hk.2) (.string t363)) (fun _ hk => hk.2) (.int .i64 t364)) (fun _ hk => hk.2) (.int .i64 t365)) (fun _ hk => hk.2) (.int .i64 t366)) (fun _ h_ => h_.1))) (Kd.R_base ho0) hb); have n2 := ra (Kd.R_lower (Kd.R_new' (Kd.R_new' ho0 (Kd.R_lt (rr (Kd.R_mono (Kd.R_far (p := ⟨gb368, 4, none⟩) (Kd.R_far (p := ⟨gb368, 3, none⟩) (Kd.R_far (p := ⟨gb368, 2, none⟩) (Kd.R_far (p := ⟨gb368, 1, none⟩) (Kd.R_far (p := ⟨gb368, 0, none⟩) (Kd.R_types HO357.out BK368.out (by decide)) (fun _ hk => hk.2) (.string t362)) (fun _ hk => hk.2) (.string t363)) (fun _ hk => hk.2) (.int .i64 t364)) (fun _ hk => hk.2) (.int .i64 t365)) (fun _ hk => hk.2) (.int .i64 t366)) (fun _ h_ => h_.1))))) (Kd.R_lt (rr (Kd.R_mono (Kd.R_far (p := ⟨gb368, 4, none⟩) (Kd.R_far (p := ⟨gb368, 3, none⟩) (Kd.R_far (p := ⟨gb368, 2, none⟩) (Kd.R_far (p := ⟨gb368, 1, none⟩) (Kd.R_far (p := ⟨gb368, 0, none⟩) (Kd.R_types HO361.out BK368.out (by decide)) (fun _ hk => hk.2) (.string t362)) (fun _ hk => hk.2) (.string t363)) (fun _ hk => hk.2) (.int .i64 t364)) (fun _ hk => hk.2) (.int .i64 t365)) (fun _ hk => hk.2) (.int .i64 t366)) (fun _ h_ => h_.1))))) (below_size bq)); have n3 := bb (bk BK350) hb; have n4 := bb (bk BK351) hb; have n5 := bb (o := .cells #[.string t362, .string t363, .int .i64 t364, .int .i64 t365, .int .i64 t366] 52 (0, 0)) (bp BK368) hb; have n6 := bs hb; clear HO357 HO361 BK350 BK351 BK368 HB; have HO357 := n0; have HO361 := n1; have HO372 := n2; have BK350 := n3; have BK351 := n4; have BK368 := n5; have HB := n6; clear n0 n1 n2 n3 n4 n5 n6; (try clear hb); (try clear hb2); (try clear hk); (try clear hi); (try clear ho0)) | ((with_reducible refine gate_dst (N := 8) rfl ?_); refine be 8 #[.string (⟨#[]⟩ : ByteArray), .slice none 0 0] 39 ?_; intro gb373 hg w49 hbox hb; have n0 := ra (Kd.R_below (rq HO357) hb); have n1 := ra (Kd.R_below (rq HO361) hb); have n2 := ra (Kd.R_below (rq HO372) hb); have n3 := bb (bk BK350) hb; have n4 := bb (bk BK351) hb; have n5 := bb (bk BK368) hb; have n6 := bs hb; have n7 := ra (hbox); have n8_ := bz (w0 := w) hg; have n9_ := bz (w0 := w) hg; have n10_ := bn hg (bk BK350); have n11_ := bm hg (bk BK350); have n12_ := bn hg (bk BK351); have n13_ := bm hg (bk BK351); have n14_ := bn hg (bk BK368); have n15_ := bm hg (bk BK368); clear HO357 HO361 HO372 BK350 BK351 BK368 HB; have HO357 := n0; have HO361 := n1; have HO372 := n2; have BK350 := n3; have BK351 := n4; have BK368 := n5; have HB := n6; have BK373 := n7; have GW373 := n8_; have GE373 := n9_; have NB350_373 := n10_; have NB373_350 := n11_; have NB351_373 := n12_; have NB373_351 := n13_; have NB368_373 := n14_; have NB373_368 := n15_; clear n0 n1 n2 n3 n4 n5 n6 n7 n8_ n9_ n10_ n11_ n12_ n13_ n14_ n15_; clear hb hbox hg; have hnb50 := NB373_350.out; have hnc50 := NB350_373.out; have hnb51 := NB373_351.out; have hnc51 := NB351_373.out; have hnb52 := NB373_368.out; have hnc52 := NB368_373.out; obtain ⟨hcz53_0, hcz53_1, hfz53_0, hfz53_1⟩ := zc2 BK373; obtain ⟨Ao54, co54, eo54⟩ := Kd.R_slice HO372.out; subst eo54; have hnb55 := NB351_368.out; have hnc55 := NB368_351.out; obtain ⟨hcz56_0, hcz56_1, hfz56_0, hfz56_1⟩ := zc2 BK351) | ((with_reducible refine gate_callee (f := 22) rfl ?_); refine gl (some 33) Try.func22 #[.agg #[.string a1_0, .slice A1_1 l1_1.length c1_1]] ?_; (with_reducible refine (laws_toProbeTube.calls k a1_0 _ _ l1_1 t374 t375 _ ?side1 ?side2 A23.out).mono ?_); (case side1 => exact Kd.C_below HR1_1.out bq); (case side2 => exact HC1_1.out); rintro e w57 ⟨v376, rfl, ho0, hb⟩; refine ⟨_, rfl, ?_⟩; have n0 := ra (Kd.R_elder' (rr (Kd.R_mono (Kd.R_far (p := ⟨gb373, 1, none⟩) (Kd.R_far (p := ⟨gb373, 0, none⟩) (Kd.R_types HO357.out BK373.out (by decide)) (fun _ hk => hk.2) (.string t369)) (fun _ hk => hk.2) (.slice Ao54 t370.length co54)) (fun _ h_ => h_.1))) (Kd.R_base ho0) hb); have n1 := ra (Kd.R_elder' (rr (Kd.R_mono (Kd.R_far (p := ⟨gb373, 1, none⟩) (Kd.R_far (p := ⟨gb373, 0, none⟩) (Kd.R_types HO361.out BK373.out (by decide)) (fun _ hk => hk.2) (.string t369)) (fun _ hk => hk.2) (.slice Ao54 t370.length co54)) (fun _ h_ => h_.1))) (Kd.R_base ho0) hb); have n2 := ra (Kd.R_elder' (rr (Kd.R_mono (Kd.R_far (p := ⟨gb373, 1, none⟩) (Kd.R_far (p := ⟨gb373, 0, none⟩) (Kd.R_types HO372.out BK373.out (by decide)) (fun _ hk => hk.2) (.string t369)) (fun _ hk => hk.2) (.slice Ao54 t370.length co54)) (fun _ h_ => h_.1))) (Kd.R_base ho0) hb); have n3 := ra (Kd.R_lower (Kd.R_new' (Kd.R_new' (Kd.R_new' ho0 (Kd.R_lt (rr (Kd.R_mono (Kd.R_far (p := ⟨gb373, 1, none⟩) (Kd.R_far (p := ⟨gb373, 0, none⟩) (Kd.R_types HO357.out BK373.out (by decide)) (fun _ hk => hk.2) (.string t369)) (fun _ hk => hk.2) (.slice Ao54 t370.length co54)) (fun _ h_ => h_.1))))) (Kd.R_lt (rr (Kd.R_mono (Kd.R_far (p := ⟨gb373, 1, none⟩) (Kd.R_far (p := ⟨gb373, 0, none⟩) (Kd.R_types HO361.out BK373.out (by decide)) (fun _ hk => hk.2) (.string t369)) (fun _ hk => hk.2) (.slice Ao54 t370.length co54)) (fun _ h_ => h_.1))))) (Kd.R_lt (rr (Kd.R_mono (Kd.R_far (p := ⟨gb373, 1, none⟩) (Kd.R_far (p := ⟨gb373, 0, none⟩) (Kd.R_types HO372.out BK373.out (by decide)) (fun _ hk => hk.2) (.string t369)) (fun _ hk => hk.2) (.slice Ao54 t370.length co54)) (fun _ h_ => h_.1))))) (below_size bq)); have n4 := bb (bk BK350) hb; have n5 := bb (bk BK351) hb; have n6 := bb (bk BK368) hb; have n7 := bb (o := .cells #[.string t369, .slice Ao54 t370.length co54] 39 (0, 0)) (bp BK373) hb; have n8_ := bs hb; clear HO357 HO361 HO372 BK350 BK351 BK368 BK373 HB; have HO357 := n0; have HO361 := n1; have HO372 := n2; have HO377 := n3; have BK350 := n4; have BK351 := n5; have BK368 := n6; have BK373 := n7; have HB := n8_; clear n0 n1 n2 n3 n4 n5 n6 n7 n8_; (try clear hb); (try clear hb2); (try clear hk); (try clear hi); (try clear ho0)) | ((with_reducible refine gate_dst (N := 9) rfl ?_); refine be 9 #[.string (⟨#[]⟩ : ByteArray), .slice none 0 0] 39 ?_; intro gb378 hg w58 hbox hb; have n0 := ra (Kd.R_below (rq HO357) hb); have n1 := ra (Kd.R_below (rq HO361) hb); have n2 := ra (Kd.R_below (rq HO372) hb); have n3 := ra (Kd.R_below (rq HO377) hb); have n4 := bb (bk BK350) hb; have n5 := bb (bk BK351) hb; have n6 := bb (bk BK368) hb; have n7 := bb (bk BK373) hb; have n8_ := bs hb; have n9_ := ra (hbox); have n10_ := bz (w0 := w) hg; have n11_ := bz (w0 := w) hg; have n12_ := bn hg (bk BK350); have n13_ := bm hg (bk BK350); have n14_ := bn hg (bk BK351); have n15_ := bm hg (bk BK351); have n16_ := bn hg (bk BK368); have n17_ := bm hg (bk BK368); have n18_ := bn hg (bk BK373); have n19_ := bm hg (bk BK373); clear HO357 HO361 HO372 HO377 BK350 BK351 BK368 BK373 HB; have HO357 := n0; have HO361 := n1; have HO372 := n2; have HO377 := n3; have BK350 := n4; have BK351 := n5; have BK368 := n6; have BK373 := n7; have HB := n8_; have BK378 := n9_; have GW378 := n10_; have GE378 := n11_; have NB350_378 := n12_; have NB378_350 := n13_; have NB351_378 := n14_; have NB378_351 := n15_; have NB368_378 := n16_; have NB378_368 := n17_; have NB373_378 := n18_; have NB378_373 := n19_; clear n0 n1 n2 n3 n4 n5 n6 n7 n8_ n9_ n10_ n11_ n12_ n13_ n14_ n15_ n16_ n17_ n18_ n19_; clear hb hbox hg; have hnb59 := NB378_350.out; have hnc59 := NB350_378.out; have hnb60 := NB378_351.out; have hnc60 := NB351_378.out; have hnb61 := NB378_368.out; have hnc61 := NB368_378.out; have hnb62 := NB378_373.out; have hnc62 := NB373_378.out; obtain ⟨hcz63_0, hcz63_1, hfz63_0, hfz63_1⟩ := zc2 BK378; obtain ⟨Ao64, co64, eo64⟩ := Kd.R_slice HO377.out; subst eo64; obtain ⟨hcz65_0, hcz65_1, hfz65_0, hfz65_1⟩ := zc2 BK373) | ((with_reducible refine gate_callee (f := 33) rfl ?_); refine gl (some 37) Try.func33 #[.agg #[.string t369, .slice Ao54 t370.length co54], .agg #[.string t374, .slice Ao64 t375.length co64]] ?_; (with_reducible refine (impl_ProbeMeet.calls k t369 _ _ t370 t374 _ _ t375 t379 t380 t381 t382 t383 t384 _ ?side1 ?side2 ?side3 ?side4 A24.out).mono ?_); (case side1 => refine (Kd.R_reads' (e := 26) (base := w.heap.size) (ok := fun k_ => (((True ∧ some k_ ≠ (v356 : Value).ownBlock) ∧ some k_ ≠ (v360 : Value).ownBlock) ∧ some k_ ≠ (.slice Ao64 t375.length co64 : Value).ownBlock)) (n := t370.length) (c := co54) ?_).2.2; exact (rr (Kd.R_mono (Kd.R_far (p := ⟨gb378, 1, none⟩) (Kd.R_far (p := ⟨gb378, 0, none⟩) (Kd.R_types HO372.out BK378.out (by decide)) (fun _ hk => hk.2) (.string t374)) (fun _ hk => hk.2) (.slice Ao64 t375.length co64)) (fun _ h_ => h_.1)))); (case side2 => exact (Kd.R_reads' HO372.out).2.1); (case side3 => refine (Kd.R_reads' (e := 26) (base := w.heap.size) (ok := fun k_ => (((True ∧ some k_ ≠ (v356 : Value).ownBlock) ∧ some k_ ≠ (v360 : Value).ownBlock) ∧ some k_ ≠ (.slice Ao54 t370.length co54 : Value).ownBlock)) (n := t375.length) (c := co64) ?_).2.2; exact (rr (Kd.R_mono (Kd.R_far (p := ⟨gb378, 1, none⟩) (Kd.R_far (p := ⟨gb378, 0, none⟩) (Kd.R_types HO377.out BK378.out (by decide)) (fun _ hk => hk.2) (.string t374)) (fun _ hk => hk.2) (.slice Ao64 t375.length co64)) (fun _ h_ => h_.1)))); (case side4 => exact (Kd.R_reads' HO377.out).2.1); rintro e w66 ⟨rfl, hb⟩; refine ⟨_, rfl, ?_⟩; have n0 := ra (Kd.R_below (rr (Kd.R_mono (Kd.R_far (p := ⟨gb378, 1, none⟩) (Kd.R_far (p := ⟨gb378, 0, none⟩) (Kd.R_types HO357.out BK378.out (by decide)) (fun _ hk => hk.2) (.string t374)) (fun _ hk => hk.2) (.slice Ao64 t375.length co64)) (fun _ h_ => h_.1))) hb); have n1 := ra (Kd.R_below (rr (Kd.R_mono (Kd.R_far (p := ⟨gb378, 1, none⟩) (Kd.R_far (p := ⟨gb378, 0, none⟩) (Kd.R_types HO361.out BK378.out (by decide)) (fun _ hk => hk.2) (.string t374)) (fun _ hk => hk.2) (.slice Ao64 t375.length co64)) (fun _ h_ => h_.1))) hb); have n2 := ra (Kd.R_below (rr (Kd.R_mono (Kd.R_far (p := ⟨gb378, 1, none⟩) (Kd.R_far (p := ⟨gb378, 0, none⟩) (Kd.R_types HO372.out BK378.out (by decide)) (fun _ hk => hk.2) (.string t374)) (fun _ hk => hk.2) (.slice Ao64 t375.length co64)) (fun _ h_ => h_.1))) hb); have n3 := ra (Kd.R_below (rr (Kd.R_mono (Kd.R_far (p := ⟨gb378, 1, none⟩) (Kd.R_far (p := ⟨gb378, 0, none⟩) (Kd.R_types HO377.out BK378.out (by decide)) (fun _ hk => hk.2) (.string t374)) (fun _ hk => hk.2) (.slice Ao64 t375.length co64)) (fun _ h_ => h_.1))) hb); have n4 := bb (bk BK350) hb; have n5 := bb (bk BK351) hb; have n6 := bb (bk BK368) hb; have n7 := bb (bk BK373) hb; have n8_ := bb (o := .cells #[.string t374, .slice Ao64 t375.length co64] 39 (0, 0)) (bp BK378) hb; have n9_ := bs hb; clear HO357 HO361 HO372 HO377 BK350 BK351 BK368 BK373 BK378 HB; have HO357 := n0; have HO361 := n1; have HO372 := n2; have HO377 := n3; have BK350 := n4; have BK351 := n5; have BK368 := n6; have BK373 := n7; have BK378 := n8_; have HB := n9_; clear n0 n1 n2 n3 n4 n5 n6 n7 n8_ n9_; (try clear hb); (try clear hb2); (try clear hk); (try clear hi)) | ((with_reducible refine gate_dst (N := 10) rfl ?_); refine be 10 #[.string (⟨#[]⟩ : ByteArray), .string (⟨#[]⟩ : ByteArray), .int .i64 0, .int .i64 0, .int .i64 0] 52 ?_; intro gb385 hg w67 hbox hb; have n0 := ra (Kd.R_below (rq HO357) hb); have n1 := ra (Kd.R_below (rq HO361) hb); have n2 := ra (Kd.R_below (rq HO372) hb); have n3 := ra (Kd.R_below (rq HO377) hb); have n4 := bb (bk BK350) hb; have n5 := bb (bk BK351) hb; have n6 := bb (bk BK368) hb; have n7 := bb (bk BK373) hb; have n8_ := bb (bk BK378) hb; have n9_ := bs hb; have n10_ := ra (hbox); have n11_ := bz (w0 := w) hg; have n12_ := bz (w0 := w) hg; have n13_ := bn hg (bk BK350); have n14_ := bm hg (bk BK350); have n15_ := bn hg (bk BK351); have n16_ := bm hg (bk BK351); have n17_ := bn hg (bk BK368); have n18_ := bm hg (bk BK368); have n19_ := bn hg (bk BK373); have n20_ := bm hg (bk BK373); have n21_ := bn hg (bk BK378); have n22_ := bm hg (bk BK378); clear HO357 HO361 HO372 HO377 BK350 BK351 BK368 BK373 BK378 HB; have HO357 := n0; have HO361 := n1; have HO372 := n2; have HO377 := n3; have BK350 := n4; have BK351 := n5; have BK368 := n6; have BK373 := n7; have BK378 := n8_; have HB := n9_; have BK385 := n10_; have GW385 := n11_; have GE385 := n12_; have NB350_385 := n13_; have NB385_350 := n14_; have NB351_385 := n15_; have NB385_351 := n16_; have NB368_385 := n17_; have NB385_368 := n18_; have NB373_385 := n19_; have NB385_373 := n20_; have NB378_385 := n21_; have NB385_378 := n22_; clear n0 n1 n2 n3 n4 n5 n6 n7 n8_ n9_ n10_ n11_ n12_ n13_ n14_ n15_ n16_ n17_ n18_ n19_ n20_ n21_ n22_; clear hb hbox hg; have hnb68 := NB385_350.out; have hnc68 := NB350_385.out; have hnb69 := NB385_351.out; have hnc69 := NB351_385.out; have hnb70 := NB385_368.out; have hnc70 := NB368_385.out; have hnb71 := NB385_373.out; have hnc71 := NB373_385.out; have hnb72 := NB385_378.out; have hnc72 := NB378_385.out; obtain ⟨hcz73_0, hcz73_1, hcz73_2, hcz73_3, hcz73_4, hfz73_0, hfz73_1, hfz73_2, hfz73_3, hfz73_4⟩ := zc5 BK385))
      (try simp only [Act.put, List.setIfInBounds_toArray, List.set_cons_zero, List.set_cons_succ])
      go_cut [48] (fun v48 wc => ∃ (kq : Nat) (x48_24 : Bool), v48 = .bool x48_24 ∧ Aside0 (laws_FnExactProbeMeet.j0 kq x48_24 a0_0 l0_1 a1_0 l1_1 t369 t370 t374 t375 = some r) ∧ Aside0 (kq ≤ k) ∧ Aside0 (Kd.R k26 26 wc w.heap.size (fun k_ => some k_ ≠ ((.slice Ao64 t375.length co64) : Value).ownBlock) (.slice Ao54 t370.length co54) t370) ∧ Aside0 (Kd.R k26 26 wc w.heap.size (fun k_ => some k_ ≠ ((.slice Ao54 t370.length co54) : Value).ownBlock) (.slice Ao64 t375.length co64) t375) ∧ Aside0 (wc.heap[gb350]? = some (.cells #[.string a0_0, (.slice A0_1 l0_1.length c0_1)] 34 (0, 0))) ∧ Aside0 (wc.heap[gb351]? = some (.cells #[.string a1_0, (.slice A1_1 l1_1.length c1_1)] 34 (0, 0))) ∧ Aside0 (wc.heap[gb368]? = some (.cells #[.string t362, .string t363, .int .i64 t364, .int .i64 t365, .int .i64 t366] 52 (0, 0))) ∧ Aside0 (wc.heap[gb373]? = some (.cells #[.string t369, (.slice Ao54 t370.length co54)] 39 (0, 0))) ∧ Aside0 (wc.heap[gb378]? = some (.cells #[.string t374, (.slice Ao64 t375.length co64)] 39 (0, 0))) ∧ Aside0 (wc.heap[gb385]? = some (.cells #[.string t379, .string t380, .int .i64 t381, .int .i64 t382, .int .i64 t383] 52 (0, 0))) ∧ Aside0 (Below w.heap.size w wc))
      case first =>
        have H := HC25.out
        clear HC25
        obtain ⟨t386, A74, H⟩ := bo H
        by_cases c75 : t386 = true
        · subst c75
          replace H := it H rfl
          have H' := Aside0.mk H
          clear H
          have hnb76 := NB385_350.out
          have hnc76 := NB350_385.out
          have hnb77 := NB385_351.out
          have hnc77 := NB351_385.out
          have hnb78 := NB385_368.out
          have hnc78 := NB368_385.out
          have hnb79 := NB385_373.out
          have hnc79 := NB373_385.out
          have hnb80 := NB385_378.out
          have hnc80 := NB378_385.out
          obtain ⟨hcz81_0, hcz81_1, hcz81_2, hcz81_3, hcz81_4, hfz81_0, hfz81_1, hfz81_2, hfz81_3, hfz81_4⟩ := zc5 BK385
          have hnb82 := NB368_350.out
          have hnc82 := NB350_368.out
          have hnb83 := NB368_351.out
          have hnc83 := NB351_368.out
          have hnb84 := NB368_373.out
          have hnc84 := NB373_368.out
          have hnb85 := NB368_378.out
          have hnc85 := NB378_368.out
          obtain ⟨hcz86_0, hcz86_1, hcz86_2, hcz86_3, hcz86_4, hfz86_0, hfz86_1, hfz86_2, hfz86_3, hfz86_4⟩ := zc5 BK368
          go_wp2_with (first | ((with_reducible refine gate_callee (f := 34) rfl ?_); refine gl (some 42) Try.func34 #[.agg #[.string t379, .string t380, .int .i64 t381, .int .i64 t382, .int .i64 t383], .agg #[.string t362, .string t363, .int .i64 t364, .int .i64 t365, .int .i64 t366]] ?_; (with_reducible refine (laws_eqProbeClash.calls t379 t380 t381 t382 t383 t362 t363 t364 t365 t366 true _ A74.out).mono ?_); rintro e w87 ⟨rfl, hb⟩; refine ⟨_, rfl, ?_⟩; have n0 := ra (Kd.R_below (rr (Kd.R_mono (Kd.R_far (p := ⟨gb385, 4, none⟩) (Kd.R_far (p := ⟨gb385, 3, none⟩) (Kd.R_far (p := ⟨gb385, 2, none⟩) (Kd.R_far (p := ⟨gb385, 1, none⟩) (Kd.R_far (p := ⟨gb385, 0, none⟩) (Kd.R_types HO357.out BK385.out (by decide)) (fun _ hk => hk.2) (.string t379)) (fun _ hk => hk.2) (.string t380)) (fun _ hk => hk.2) (.int .i64 t381)) (fun _ hk => hk.2) (.int .i64 t382)) (fun _ hk => hk.2) (.int .i64 t383)) (fun _ h_ => h_.1))) hb); have n1 := ra (Kd.R_below (rr (Kd.R_mono (Kd.R_far (p := ⟨gb385, 4, none⟩) (Kd.R_far (p := ⟨gb385, 3, none⟩) (Kd.R_far (p := ⟨gb385, 2, none⟩) (Kd.R_far (p := ⟨gb385, 1, none⟩) (Kd.R_far (p := ⟨gb385, 0, none⟩) (Kd.R_types HO361.out BK385.out (by decide)) (fun _ hk => hk.2) (.string t379)) (fun _ hk => hk.2) (.string t380)) (fun _ hk => hk.2) (.int .i64 t381)) (fun _ hk => hk.2) (.int .i64 t382)) (fun _ hk => hk.2) (.int .i64 t383)) (fun _ h_ => h_.1))) hb); have n2 := ra (Kd.R_below (rr (Kd.R_mono (Kd.R_far (p := ⟨gb385, 4, none⟩) (Kd.R_far (p := ⟨gb385, 3, none⟩) (Kd.R_far (p := ⟨gb385, 2, none⟩) (Kd.R_far (p := ⟨gb385, 1, none⟩) (Kd.R_far (p := ⟨gb385, 0, none⟩) (Kd.R_types HO372.out BK385.out (by decide)) (fun _ hk => hk.2) (.string t379)) (fun _ hk => hk.2) (.string t380)) (fun _ hk => hk.2) (.int .i64 t381)) (fun _ hk => hk.2) (.int .i64 t382)) (fun _ hk => hk.2) (.int .i64 t383)) (fun _ h_ => h_.1))) hb); have n3 := ra (Kd.R_below (rr (Kd.R_mono (Kd.R_far (p := ⟨gb385, 4, none⟩) (Kd.R_far (p := ⟨gb385, 3, none⟩) (Kd.R_far (p := ⟨gb385, 2, none⟩) (Kd.R_far (p := ⟨gb385, 1, none⟩) (Kd.R_far (p := ⟨gb385, 0, none⟩) (Kd.R_types HO377.out BK385.out (by decide)) (fun _ hk => hk.2) (.string t379)) (fun _ hk => hk.2) (.string t380)) (fun _ hk => hk.2) (.int .i64 t381)) (fun _ hk => hk.2) (.int .i64 t382)) (fun _ hk => hk.2) (.int .i64 t383)) (fun _ h_ => h_.1))) hb); have n4 := bb (bk BK350) hb; have n5 := bb (bk BK351) hb; have n6 := bb (bk BK368) hb; have n7 := bb (bk BK373) hb; have n8_ := bb (bk BK378) hb; have n9_ := bb (o := .cells #[.string t379, .string t380, .int .i64 t381, .int .i64 t382, .int .i64 t383] 52 (0, 0)) (bp BK385) hb; have n10_ := bs hb; clear HO357 HO361 HO372 HO377 BK350 BK351 BK368 BK373 BK378 BK385 HB; have HO357 := n0; have HO361 := n1; have HO372 := n2; have HO377 := n3; have BK350 := n4; have BK351 := n5; have BK368 := n6; have BK373 := n7; have BK378 := n8_; have BK385 := n9_; have HB := n10_; clear n0 n1 n2 n3 n4 n5 n6 n7 n8_ n9_ n10_; (try clear hb); (try clear hb2); (try clear hk); (try clear hi)))
          go_meet
          case rel => exact ⟨_, ((t384 != t367)), rs, H', ⟨by first | omega | exact Nat.le_refl _⟩, ⟨by (with_reducible repeat (first | apply Kd.R_alloc | apply Kd.R_drewN | apply Kd.R_drew)); exact Kd.R_mono HO372.out (fun _ hk => hk.2)⟩, ⟨by (with_reducible repeat (first | apply Kd.R_alloc | apply Kd.R_drewN | apply Kd.R_drew)); exact Kd.R_mono HO377.out (fun _ hk => hk.2)⟩, ⟨bk BK350⟩, ⟨bk BK351⟩, ⟨bk BK368⟩, ⟨bk BK373⟩, ⟨bk BK378⟩, ⟨bk BK385⟩, ⟨bq⟩⟩
        · replace c75 := Bool.eq_false_iff.mpr c75
          subst c75
          have H1 : (laws_FnExactProbeMeet.j0 k true a0_0 l0_1 a1_0 l1_1 t369 t370 t374 t375) = some r := by rw [if_neg (show ¬ (false = true) by decide)] at H; exact H
          clear H
          have H := H1
          clear H1
          have H' := Aside0.mk H
          clear H
          have hnb88 := NB385_350.out
          have hnc88 := NB350_385.out
          have hnb89 := NB385_351.out
          have hnc89 := NB351_385.out
          have hnb90 := NB385_368.out
          have hnc90 := NB368_385.out
          have hnb91 := NB385_373.out
          have hnc91 := NB373_385.out
          have hnb92 := NB385_378.out
          have hnc92 := NB378_385.out
          obtain ⟨hcz93_0, hcz93_1, hcz93_2, hcz93_3, hcz93_4, hfz93_0, hfz93_1, hfz93_2, hfz93_3, hfz93_4⟩ := zc5 BK385
          have hnb94 := NB368_350.out
          have hnc94 := NB350_368.out
          have hnb95 := NB368_351.out
          have hnc95 := NB351_368.out
          have hnb96 := NB368_373.out
          have hnc96 := NB373_368.out
          have hnb97 := NB368_378.out
          have hnc97 := NB378_368.out
          obtain ⟨hcz98_0, hcz98_1, hcz98_2, hcz98_3, hcz98_4, hfz98_0, hfz98_1, hfz98_2, hfz98_3, hfz98_4⟩ := zc5 BK368
          go_wp2_with (first | ((with_reducible refine gate_callee (f := 34) rfl ?_); refine gl (some 42) Try.func34 #[.agg #[.string t379, .string t380, .int .i64 t381, .int .i64 t382, .int .i64 t383], .agg #[.string t362, .string t363, .int .i64 t364, .int .i64 t365, .int .i64 t366]] ?_; (with_reducible refine (laws_eqProbeClash.calls t379 t380 t381 t382 t383 t362 t363 t364 t365 t366 false _ A74.out).mono ?_); rintro e w99 ⟨rfl, hb⟩; refine ⟨_, rfl, ?_⟩; have n0 := ra (Kd.R_below (rr (Kd.R_mono (Kd.R_far (p := ⟨gb385, 4, none⟩) (Kd.R_far (p := ⟨gb385, 3, none⟩) (Kd.R_far (p := ⟨gb385, 2, none⟩) (Kd.R_far (p := ⟨gb385, 1, none⟩) (Kd.R_far (p := ⟨gb385, 0, none⟩) (Kd.R_types HO357.out BK385.out (by decide)) (fun _ hk => hk.2) (.string t379)) (fun _ hk => hk.2) (.string t380)) (fun _ hk => hk.2) (.int .i64 t381)) (fun _ hk => hk.2) (.int .i64 t382)) (fun _ hk => hk.2) (.int .i64 t383)) (fun _ h_ => h_.1))) hb); have n1 := ra (Kd.R_below (rr (Kd.R_mono (Kd.R_far (p := ⟨gb385, 4, none⟩) (Kd.R_far (p := ⟨gb385, 3, none⟩) (Kd.R_far (p := ⟨gb385, 2, none⟩) (Kd.R_far (p := ⟨gb385, 1, none⟩) (Kd.R_far (p := ⟨gb385, 0, none⟩) (Kd.R_types HO361.out BK385.out (by decide)) (fun _ hk => hk.2) (.string t379)) (fun _ hk => hk.2) (.string t380)) (fun _ hk => hk.2) (.int .i64 t381)) (fun _ hk => hk.2) (.int .i64 t382)) (fun _ hk => hk.2) (.int .i64 t383)) (fun _ h_ => h_.1))) hb); have n2 := ra (Kd.R_below (rr (Kd.R_mono (Kd.R_far (p := ⟨gb385, 4, none⟩) (Kd.R_far (p := ⟨gb385, 3, none⟩) (Kd.R_far (p := ⟨gb385, 2, none⟩) (Kd.R_far (p := ⟨gb385, 1, none⟩) (Kd.R_far (p := ⟨gb385, 0, none⟩) (Kd.R_types HO372.out BK385.out (by decide)) (fun _ hk => hk.2) (.string t379)) (fun _ hk => hk.2) (.string t380)) (fun _ hk => hk.2) (.int .i64 t381)) (fun _ hk => hk.2) (.int .i64 t382)) (fun _ hk => hk.2) (.int .i64 t383)) (fun _ h_ => h_.1))) hb); have n3 := ra (Kd.R_below (rr (Kd.R_mono (Kd.R_far (p := ⟨gb385, 4, none⟩) (Kd.R_far (p := ⟨gb385, 3, none⟩) (Kd.R_far (p := ⟨gb385, 2, none⟩) (Kd.R_far (p := ⟨gb385, 1, none⟩) (Kd.R_far (p := ⟨gb385, 0, none⟩) (Kd.R_types HO377.out BK385.out (by decide)) (fun _ hk => hk.2) (.string t379)) (fun _ hk => hk.2) (.string t380)) (fun _ hk => hk.2) (.int .i64 t381)) (fun _ hk => hk.2) (.int .i64 t382)) (fun _ hk => hk.2) (.int .i64 t383)) (fun _ h_ => h_.1))) hb); have n4 := bb (bk BK350) hb; have n5 := bb (bk BK351) hb; have n6 := bb (bk BK368) hb; have n7 := bb (bk BK373) hb; have n8_ := bb (bk BK378) hb; have n9_ := bb (o := .cells #[.string t379, .string t380, .int .i64 t381, .int .i64 t382, .int .i64 t383] 52 (0, 0)) (bp BK385) hb; have n10_ := bs hb; clear HO357 HO361 HO372 HO377 BK350 BK351 BK368 BK373 BK378 BK385 HB; have HO357 := n0; have HO361 := n1; have HO372 := n2; have HO377 := n3; have BK350 := n4; have BK351 := n5; have BK368 := n6; have BK373 := n7; have BK378 := n8_; have BK385 := n9_; have HB := n10_; clear n0 n1 n2 n3 n4 n5 n6 n7 n8_ n9_ n10_; (try clear hb); (try clear hb2); (try clear hk); (try clear hi)))
          go_meet
          case rel => exact ⟨_, (true), rs, H', ⟨by first | omega | exact Nat.le_refl _⟩, ⟨by (with_reducible repeat (first | apply Kd.R_alloc | apply Kd.R_drewN | apply Kd.R_drew)); exact Kd.R_mono HO372.out (fun _ hk => hk.2)⟩, ⟨by (with_reducible repeat (first | apply Kd.R_alloc | apply Kd.R_drewN | apply Kd.R_drew)); exact Kd.R_mono HO377.out (fun _ hk => hk.2)⟩, ⟨bk BK350⟩, ⟨bk BK351⟩, ⟨bk BK368⟩, ⟨bk BK373⟩, ⟨bk BK378⟩, ⟨bk BK385⟩, ⟨bq⟩⟩
      case rest =>
        clear HC25
        try clear c4
        try clear c75
        try clear hcz47_0
        try clear hcz47_1
        try clear hcz53_0
        try clear hcz53_1
        try clear hcz56_0
        try clear hcz56_1
        try clear hcz63_0
        try clear hcz63_1
        try clear hcz65_0
        try clear hcz65_1
        try clear hcz73_0
        try clear hcz73_1
        try clear hcz73_2
        try clear hcz73_3
        try clear hcz73_4
        try clear hcz81_0
        try clear hcz81_1
        try clear hcz81_2
        try clear hcz81_3
        try clear hcz81_4
        try clear hcz86_0
        try clear hcz86_1
        try clear hcz86_2
        try clear hcz86_3
        try clear hcz86_4
        try clear hcz93_0
        try clear hcz93_1
        try clear hcz93_2
        try clear hcz93_3
        try clear hcz93_4
        try clear hcz98_0
        try clear hcz98_1
        try clear hcz98_2
        try clear hcz98_3
        try clear hcz98_4
        try clear hfz47_0
        try clear hfz47_1
        try clear hfz53_0
        try clear hfz53_1
        try clear hfz56_0
        try clear hfz56_1
        try clear hfz63_0
        try clear hfz63_1
        try clear hfz65_0
        try clear hfz65_1
        try clear hfz73_0
        try clear hfz73_1
        try clear hfz73_2
        try clear hfz73_3
        try clear hfz73_4
        try clear hfz81_0
        try clear hfz81_1
        try clear hfz81_2
        try clear hfz81_3
        try clear hfz81_4
        try clear hfz86_0
        try clear hfz86_1
        try clear hfz86_2
        try clear hfz86_3
        try clear hfz86_4
        try clear hfz93_0
        try clear hfz93_1
        try clear hfz93_2
        try clear hfz93_3
        try clear hfz93_4
        try clear hfz98_0
        try clear hfz98_1
        try clear hfz98_2
        try clear hfz98_3
        try clear hfz98_4
        obtain ⟨kq, x48_24, rfl, HA, HJ24, HO_374001, HO_379001, BK350, BK351, BK368, BK373, BK378, BK385, HB⟩ := hcut
        cases kq with
        | zero => exact absurd HA.out (by simp [laws_FnExactProbeMeet.j0])
        | succ kj24 =>
          have H := HA.out
          clear HA
          simp only [laws_FnExactProbeMeet.j0] at H
          by_cases c100 : x48_24 = true
          · subst c100
            replace H := it H rfl
            obtain rfl := Option.some.inj H
            go_wp2
            go_ret
            exact ⟨re, bq⟩
          · replace c100 := Bool.eq_false_iff.mpr c100
            subst c100
            have H1 : ((laws_toProbeTube.f kj24 a0_0 l0_1).bind fun bt387 => ((laws_eqProbeTube.f kj24 t369 t370 bt387.1 bt387.2).bind fun t391 => (if t391 = true then ((laws_toProbeTube.f kj24 a1_0 l1_1).bind fun bt392 => ((laws_eqProbeTube.f kj24 t374 t375 bt392.1 bt392.2).bind fun t396 => (if t396 = true then (some true) else (some false)))) else (some false)))) = some r := by rw [if_neg (show ¬ (false = true) by decide)] at H; exact H
            clear H
            have H := H1
            clear H1
            obtain ⟨⟨t387, t388⟩, A101, H⟩ := bo H
            try dsimp only at H
            obtain ⟨t391, A102, H⟩ := bo H
            by_cases c103 : t391 = true
            · subst c103
              replace H := it H rfl
              obtain ⟨⟨t392, t393⟩, A104, H⟩ := bo H
              try dsimp only at H
              obtain ⟨t396, A105, H⟩ := bo H
              by_cases c106 : t396 = true
              · subst c106
                replace H := it H rfl
                obtain rfl := Option.some.inj H
                try go_wp2
                have n0 := ra (Kd.R_drew HO_374001.out)
                have n1 := ra (Kd.R_drew HO_379001.out)
                have n2 := ra (blk_drew BK350.out)
                have n3 := ra (blk_drew BK351.out)
                have n4 := ra (blk_drew BK368.out)
                have n5 := ra (blk_drew BK373.out)
                have n6 := ra (blk_drew BK378.out)
                have n7 := ra (blk_drew BK385.out)
                have n8_ := ra (below_drew1 HB.out)
                clear HO_374001 HO_379001 BK350 BK351 BK368 BK373 BK378 BK385 HB
                have HO_374001 := n0
                have HO_379001 := n1
                have BK350 := n2
                have BK351 := n3
                have BK368 := n4
                have BK373 := n5
                have BK378 := n6
                have BK385 := n7
                have HB := n8_
                clear n0 n1 n2 n3 n4 n5 n6 n7 n8_
                refine start_ (n := 5) (S := fun w' => w'.cell? ⟨gb373, 0, none⟩ = some (.string t369) ∧ w'.cell? ⟨gb373, 1, none⟩ = some (.slice Ao54 t370.length co54) ∧ w'.cell? ⟨gb350, 0, none⟩ = some (.string a0_0) ∧ w'.cell? ⟨gb350, 1, none⟩ = some (.slice A0_1 l0_1.length c0_1)) (ds := []) (bl 5 0) (by kernel_rfl) rfl rfl ⟨(blk_cell BK373.out 0).trans rfl, (blk_cell BK373.out 1).trans rfl, (blk_cell BK350.out 0).trans rfl, (blk_cell BK350.out 1).trans rfl⟩ (fun hHeld => ?_)
                generalize wc.drew = w107 at HO_374001 HO_379001 BK350 BK351 BK368 BK373 BK378 BK385 HB hHeld ⊢
                refine tk 0 49 (bl 5 1) ?_ hHeld
                refine tk 1 50 (bl 5 3) ?_ hHeld
                refine oe 2 51 (bl 5 7) (fun K hK => ?_)
                refine gs Try.func22 #[.agg #[.string a0_0, .slice A0_1 l0_1.length c0_1]] ?_
                with_reducible refine (laws_toProbeTube.calls kj24 a0_0 _ _ l0_1 t387 t388 _ ?side1 ?side2 A101.out).mono ?_
                (case side1 => exact sc HR0_1)
                (case side2 => exact HC0_1.out)
                rintro e w108 ⟨v389, rfl, ho0, hb⟩
                refine ⟨_, rfl, ?_⟩
                have n0 := ra (Kd.R_elder' (rq HO_374001) (Kd.R_base ho0) hb)
                have n1 := ra (Kd.R_elder' (rq HO_379001) (Kd.R_base ho0) hb)
                have n2 := ra (Kd.R_lower (Kd.R_new' (Kd.R_new' ho0 (Kd.R_lt (rq HO_374001))) (Kd.R_lt (rq HO_379001))) (below_size bq))
                have n3 := bb (bk BK350) hb
                have n4 := bb (bk BK351) hb
                have n5 := bb (bk BK368) hb
                have n6 := bb (bk BK373) hb
                have n7 := bb (bk BK378) hb
                have n8_ := bb (bk BK385) hb
                have n9_ := bs hb
                clear HO_374001 HO_379001 BK350 BK351 BK368 BK373 BK378 BK385 HB
                have HO_374001 := n0
                have HO_379001 := n1
                have HO390 := n2
                have BK350 := n3
                have BK351 := n4
                have BK368 := n5
                have BK373 := n6
                have BK378 := n7
                have BK385 := n8_
                have HB := n9_
                clear n0 n1 n2 n3 n4 n5 n6 n7 n8_ n9_
                (try clear hb)
                (try clear hb2)
                (try clear hk)
                (try clear hi)
                (try clear ho0)
                obtain ⟨Ao109, co109, eo109⟩ := Kd.R_slice HO390.out
                (first | subst eo109 | (injection eo109 with f1_ f2_ f3_; have f4_ := f1_.symm; have f5_ := f3_.symm; clear f1_ f2_ f3_; subst f4_; subst f5_))
                refine hK.out _ _ ⟨(blk_cell BK373.out 0).trans rfl, (blk_cell BK373.out 1).trans rfl, (blk_cell BK350.out 0).trans rfl, (blk_cell BK350.out 1).trans rfl⟩ (fun hHeld => ?_)
                clear hK K
                refine nm 51 ?_
                refine oe 3 52 (bl 5 15) (fun K hK => ?_)
                refine gs Try.func24 #[.agg #[.string t369, .slice Ao54 t370.length co54], .agg #[.string t387, .slice Ao109 t388.length co109]] ?_
                with_reducible refine (laws_eqProbeTube.calls kj24 t369 _ _ t370 t387 _ _ t388 true _ ?side1 ?side2 ?side3 ?side4 A102.out).mono ?_
                (case side1 => exact sr HO_374001)
                (case side2 => exact (Kd.R_reads' HO_374001.out).2.1)
                (case side3 => exact sr HO390)
                (case side4 => exact (Kd.R_reads' HO390.out).2.1)
                rintro e w110 ⟨rfl, hb⟩
                refine ⟨_, rfl, ?_⟩
                have n0 := ra (Kd.R_below (rq HO_374001) hb)
                have n1 := ra (Kd.R_below (rq HO_379001) hb)
                have n2 := ra (Kd.R_below (rq HO390) hb)
                have n3 := bb (bk BK350) hb
                have n4 := bb (bk BK351) hb
                have n5 := bb (bk BK368) hb
                have n6 := bb (bk BK373) hb
                have n7 := bb (bk BK378) hb
                have n8_ := bb (bk BK385) hb
                have n9_ := bs hb
                clear HO_374001 HO_379001 HO390 BK350 BK351 BK368 BK373 BK378 BK385 HB
                have HO_374001 := n0
                have HO_379001 := n1
                have HO390 := n2
                have BK350 := n3
                have BK351 := n4
                have BK368 := n5
                have BK373 := n6
                have BK378 := n7
                have BK385 := n8_
                have HB := n9_
                clear n0 n1 n2 n3 n4 n5 n6 n7 n8_ n9_
                (try clear hb)
                (try clear hb2)
                (try clear hk)
                (try clear hi)
                refine hK.out _ _ ⟨(blk_cell BK373.out 0).trans rfl, (blk_cell BK373.out 1).trans rfl, (blk_cell BK350.out 0).trans rfl, (blk_cell BK350.out 1).trans rfl⟩ (fun hHeld => ?_)
                clear hK K
                refine nm 52 ?_
                refine pu 4 53 (bl 5 31) ?_
                refine done_ (by kernel_rfl) ?_
                try go_wp2
                have n0 := ra (Kd.R_drew HO_374001.out)
                have n1 := ra (Kd.R_drew HO_379001.out)
                have n2 := ra (Kd.R_drew HO390.out)
                have n3 := ra (blk_drew BK350.out)
                have n4 := ra (blk_drew BK351.out)
                have n5 := ra (blk_drew BK368.out)
                have n6 := ra (blk_drew BK373.out)
                have n7 := ra (blk_drew BK378.out)
                have n8_ := ra (blk_drew BK385.out)
                have n9_ := ra (below_drew1 HB.out)
                clear HO_374001 HO_379001 HO390 BK350 BK351 BK368 BK373 BK378 BK385 HB
                have HO_374001 := n0
                have HO_379001 := n1
                have HO390 := n2
                have BK350 := n3
                have BK351 := n4
                have BK368 := n5
                have BK373 := n6
                have BK378 := n7
                have BK385 := n8_
                have HB := n9_
                clear n0 n1 n2 n3 n4 n5 n6 n7 n8_ n9_
                refine start_ (n := 5) (S := fun w' => w'.cell? ⟨gb378, 0, none⟩ = some (.string t374) ∧ w'.cell? ⟨gb378, 1, none⟩ = some (.slice Ao64 t375.length co64) ∧ w'.cell? ⟨gb351, 0, none⟩ = some (.string a1_0) ∧ w'.cell? ⟨gb351, 1, none⟩ = some (.slice A1_1 l1_1.length c1_1)) (ds := []) (bl 5 0) (by kernel_rfl) rfl rfl ⟨(blk_cell BK378.out 0).trans rfl, (blk_cell BK378.out 1).trans rfl, (blk_cell BK351.out 0).trans rfl, (blk_cell BK351.out 1).trans rfl⟩ (fun hHeld => ?_)
                generalize w110.drew = w111 at HO_374001 HO_379001 HO390 BK350 BK351 BK368 BK373 BK378 BK385 HB hHeld ⊢
                refine tk 0 54 (bl 5 1) ?_ hHeld
                refine tk 1 55 (bl 5 3) ?_ hHeld
                refine oe 2 56 (bl 5 7) (fun K hK => ?_)
                refine gs Try.func22 #[.agg #[.string a1_0, .slice A1_1 l1_1.length c1_1]] ?_
                with_reducible refine (laws_toProbeTube.calls kj24 a1_0 _ _ l1_1 t392 t393 _ ?side1 ?side2 A104.out).mono ?_
                (case side1 => exact sc HR1_1)
                (case side2 => exact HC1_1.out)
                rintro e w112 ⟨v394, rfl, ho0, hb⟩
                refine ⟨_, rfl, ?_⟩
                have n0 := ra (Kd.R_elder' (rq HO_374001) (Kd.R_base ho0) hb)
                have n1 := ra (Kd.R_elder' (rq HO_379001) (Kd.R_base ho0) hb)
                have n2 := ra (Kd.R_elder' (rq HO390) (Kd.R_base ho0) hb)
                have n3 := ra (Kd.R_lower (Kd.R_new' (Kd.R_new' (Kd.R_new' ho0 (Kd.R_lt (rq HO_374001))) (Kd.R_lt (rq HO_379001))) (Kd.R_lt (rq HO390))) (below_size bq))
                have n4 := bb (bk BK350) hb
                have n5 := bb (bk BK351) hb
                have n6 := bb (bk BK368) hb
                have n7 := bb (bk BK373) hb
                have n8_ := bb (bk BK378) hb
                have n9_ := bb (bk BK385) hb
                have n10_ := bs hb
                clear HO_374001 HO_379001 HO390 BK350 BK351 BK368 BK373 BK378 BK385 HB
                have HO_374001 := n0
                have HO_379001 := n1
                have HO390 := n2
                have HO395 := n3
                have BK350 := n4
                have BK351 := n5
                have BK368 := n6
                have BK373 := n7
                have BK378 := n8_
                have BK385 := n9_
                have HB := n10_
                clear n0 n1 n2 n3 n4 n5 n6 n7 n8_ n9_ n10_
                (try clear hb)
                (try clear hb2)
                (try clear hk)
                (try clear hi)
                (try clear ho0)
                obtain ⟨Ao113, co113, eo113⟩ := Kd.R_slice HO395.out
                (first | subst eo113 | (injection eo113 with f1_ f2_ f3_; have f4_ := f1_.symm; have f5_ := f3_.symm; clear f1_ f2_ f3_; subst f4_; subst f5_))
                refine hK.out _ _ ⟨(blk_cell BK378.out 0).trans rfl, (blk_cell BK378.out 1).trans rfl, (blk_cell BK351.out 0).trans rfl, (blk_cell BK351.out 1).trans rfl⟩ (fun hHeld => ?_)
                clear hK K
                refine nm 56 ?_
                refine oe 3 57 (bl 5 15) (fun K hK => ?_)
                refine gs Try.func24 #[.agg #[.string t374, .slice Ao64 t375.length co64], .agg #[.string t392, .slice Ao113 t393.length co113]] ?_
                with_reducible refine (laws_eqProbeTube.calls kj24 t374 _ _ t375 t392 _ _ t393 true _ ?side1 ?side2 ?side3 ?side4 A105.out).mono ?_
                (case side1 => exact sr HO_379001)
                (case side2 => exact (Kd.R_reads' HO_379001.out).2.1)
                (case side3 => exact sr HO395)
                (case side4 => exact (Kd.R_reads' HO395.out).2.1)
                rintro e w114 ⟨rfl, hb⟩
                refine ⟨_, rfl, ?_⟩
                have n0 := ra (Kd.R_below (rq HO_374001) hb)
                have n1 := ra (Kd.R_below (rq HO_379001) hb)
                have n2 := ra (Kd.R_below (rq HO390) hb)
                have n3 := ra (Kd.R_below (rq HO395) hb)
                have n4 := bb (bk BK350) hb
                have n5 := bb (bk BK351) hb
                have n6 := bb (bk BK368) hb
                have n7 := bb (bk BK373) hb
                have n8_ := bb (bk BK378) hb
                have n9_ := bb (bk BK385) hb
                have n10_ := bs hb
                clear HO_374001 HO_379001 HO390 HO395 BK350 BK351 BK368 BK373 BK378 BK385 HB
                have HO_374001 := n0
                have HO_379001 := n1
                have HO390 := n2
                have HO395 := n3
                have BK350 := n4
                have BK351 := n5
                have BK368 := n6
                have BK373 := n7
                have BK378 := n8_
                have BK385 := n9_
                have HB := n10_
                clear n0 n1 n2 n3 n4 n5 n6 n7 n8_ n9_ n10_
                (try clear hb)
                (try clear hb2)
                (try clear hk)
                (try clear hi)
                refine hK.out _ _ ⟨(blk_cell BK378.out 0).trans rfl, (blk_cell BK378.out 1).trans rfl, (blk_cell BK351.out 0).trans rfl, (blk_cell BK351.out 1).trans rfl⟩ (fun hHeld => ?_)
                clear hK K
                refine nm 57 ?_
                refine pu 4 58 (bl 5 31) ?_
                refine done_ (by kernel_rfl) ?_
                try go_wp2
                go_ret
                exact ⟨re, bq⟩
              · replace c106 := Bool.eq_false_iff.mpr c106
                subst c106
                have H1 : (some false) = some r := by rw [if_neg (show ¬ (false = true) by decide)] at H; exact H
                clear H
                have H := H1
                clear H1
                obtain rfl := Option.some.inj H
                try go_wp2
                have n0 := ra (Kd.R_drew HO_374001.out)
                have n1 := ra (Kd.R_drew HO_379001.out)
                have n2 := ra (blk_drew BK350.out)
                have n3 := ra (blk_drew BK351.out)
                have n4 := ra (blk_drew BK368.out)
                have n5 := ra (blk_drew BK373.out)
                have n6 := ra (blk_drew BK378.out)
                have n7 := ra (blk_drew BK385.out)
                have n8_ := ra (below_drew1 HB.out)
                clear HO_374001 HO_379001 BK350 BK351 BK368 BK373 BK378 BK385 HB
                have HO_374001 := n0
                have HO_379001 := n1
                have BK350 := n2
                have BK351 := n3
                have BK368 := n4
                have BK373 := n5
                have BK378 := n6
                have BK385 := n7
                have HB := n8_
                clear n0 n1 n2 n3 n4 n5 n6 n7 n8_
                refine start_ (n := 5) (S := fun w' => w'.cell? ⟨gb373, 0, none⟩ = some (.string t369) ∧ w'.cell? ⟨gb373, 1, none⟩ = some (.slice Ao54 t370.length co54) ∧ w'.cell? ⟨gb350, 0, none⟩ = some (.string a0_0) ∧ w'.cell? ⟨gb350, 1, none⟩ = some (.slice A0_1 l0_1.length c0_1)) (ds := []) (bl 5 0) (by kernel_rfl) rfl rfl ⟨(blk_cell BK373.out 0).trans rfl, (blk_cell BK373.out 1).trans rfl, (blk_cell BK350.out 0).trans rfl, (blk_cell BK350.out 1).trans rfl⟩ (fun hHeld => ?_)
                generalize wc.drew = w115 at HO_374001 HO_379001 BK350 BK351 BK368 BK373 BK378 BK385 HB hHeld ⊢
                refine tk 0 49 (bl 5 1) ?_ hHeld
                refine tk 1 50 (bl 5 3) ?_ hHeld
                refine oe 2 51 (bl 5 7) (fun K hK => ?_)
                refine gs Try.func22 #[.agg #[.string a0_0, .slice A0_1 l0_1.length c0_1]] ?_
                with_reducible refine (laws_toProbeTube.calls kj24 a0_0 _ _ l0_1 t387 t388 _ ?side1 ?side2 A101.out).mono ?_
                (case side1 => exact sc HR0_1)
                (case side2 => exact HC0_1.out)
                rintro e w116 ⟨v389, rfl, ho0, hb⟩
                refine ⟨_, rfl, ?_⟩
                have n0 := ra (Kd.R_elder' (rq HO_374001) (Kd.R_base ho0) hb)
                have n1 := ra (Kd.R_elder' (rq HO_379001) (Kd.R_base ho0) hb)
                have n2 := ra (Kd.R_lower (Kd.R_new' (Kd.R_new' ho0 (Kd.R_lt (rq HO_374001))) (Kd.R_lt (rq HO_379001))) (below_size bq))
                have n3 := bb (bk BK350) hb
                have n4 := bb (bk BK351) hb
                have n5 := bb (bk BK368) hb
                have n6 := bb (bk BK373) hb
                have n7 := bb (bk BK378) hb
                have n8_ := bb (bk BK385) hb
                have n9_ := bs hb
                clear HO_374001 HO_379001 BK350 BK351 BK368 BK373 BK378 BK385 HB
                have HO_374001 := n0
                have HO_379001 := n1
                have HO390 := n2
                have BK350 := n3
                have BK351 := n4
                have BK368 := n5
                have BK373 := n6
                have BK378 := n7
                have BK385 := n8_
                have HB := n9_
                clear n0 n1 n2 n3 n4 n5 n6 n7 n8_ n9_
                (try clear hb)
                (try clear hb2)
                (try clear hk)
                (try clear hi)
                (try clear ho0)
                obtain ⟨Ao117, co117, eo117⟩ := Kd.R_slice HO390.out
                (first | subst eo117 | (injection eo117 with f1_ f2_ f3_; have f4_ := f1_.symm; have f5_ := f3_.symm; clear f1_ f2_ f3_; subst f4_; subst f5_))
                refine hK.out _ _ ⟨(blk_cell BK373.out 0).trans rfl, (blk_cell BK373.out 1).trans rfl, (blk_cell BK350.out 0).trans rfl, (blk_cell BK350.out 1).trans rfl⟩ (fun hHeld => ?_)
                clear hK K
                refine nm 51 ?_
                refine oe 3 52 (bl 5 15) (fun K hK => ?_)
                refine gs Try.func24 #[.agg #[.string t369, .slice Ao54 t370.length co54], .agg #[.string t387, .slice Ao117 t388.length co117]] ?_
                with_reducible refine (laws_eqProbeTube.calls kj24 t369 _ _ t370 t387 _ _ t388 true _ ?side1 ?side2 ?side3 ?side4 A102.out).mono ?_
                (case side1 => exact sr HO_374001)
                (case side2 => exact (Kd.R_reads' HO_374001.out).2.1)
                (case side3 => exact sr HO390)
                (case side4 => exact (Kd.R_reads' HO390.out).2.1)
                rintro e w118 ⟨rfl, hb⟩
                refine ⟨_, rfl, ?_⟩
                have n0 := ra (Kd.R_below (rq HO_374001) hb)
                have n1 := ra (Kd.R_below (rq HO_379001) hb)
                have n2 := ra (Kd.R_below (rq HO390) hb)
                have n3 := bb (bk BK350) hb
                have n4 := bb (bk BK351) hb
                have n5 := bb (bk BK368) hb
                have n6 := bb (bk BK373) hb
                have n7 := bb (bk BK378) hb
                have n8_ := bb (bk BK385) hb
                have n9_ := bs hb
                clear HO_374001 HO_379001 HO390 BK350 BK351 BK368 BK373 BK378 BK385 HB
                have HO_374001 := n0
                have HO_379001 := n1
                have HO390 := n2
                have BK350 := n3
                have BK351 := n4
                have BK368 := n5
                have BK373 := n6
                have BK378 := n7
                have BK385 := n8_
                have HB := n9_
                clear n0 n1 n2 n3 n4 n5 n6 n7 n8_ n9_
                (try clear hb)
                (try clear hb2)
                (try clear hk)
                (try clear hi)
                refine hK.out _ _ ⟨(blk_cell BK373.out 0).trans rfl, (blk_cell BK373.out 1).trans rfl, (blk_cell BK350.out 0).trans rfl, (blk_cell BK350.out 1).trans rfl⟩ (fun hHeld => ?_)
                clear hK K
                refine nm 52 ?_
                refine pu 4 53 (bl 5 31) ?_
                refine done_ (by kernel_rfl) ?_
                try go_wp2
                have n0 := ra (Kd.R_drew HO_374001.out)
                have n1 := ra (Kd.R_drew HO_379001.out)
                have n2 := ra (Kd.R_drew HO390.out)
                have n3 := ra (blk_drew BK350.out)
                have n4 := ra (blk_drew BK351.out)
                have n5 := ra (blk_drew BK368.out)
                have n6 := ra (blk_drew BK373.out)
                have n7 := ra (blk_drew BK378.out)
                have n8_ := ra (blk_drew BK385.out)
                have n9_ := ra (below_drew1 HB.out)
                clear HO_374001 HO_379001 HO390 BK350 BK351 BK368 BK373 BK378 BK385 HB
                have HO_374001 := n0
                have HO_379001 := n1
                have HO390 := n2
                have BK350 := n3
                have BK351 := n4
                have BK368 := n5
                have BK373 := n6
                have BK378 := n7
                have BK385 := n8_
                have HB := n9_
                clear n0 n1 n2 n3 n4 n5 n6 n7 n8_ n9_
                refine start_ (n := 5) (S := fun w' => w'.cell? ⟨gb378, 0, none⟩ = some (.string t374) ∧ w'.cell? ⟨gb378, 1, none⟩ = some (.slice Ao64 t375.length co64) ∧ w'.cell? ⟨gb351, 0, none⟩ = some (.string a1_0) ∧ w'.cell? ⟨gb351, 1, none⟩ = some (.slice A1_1 l1_1.length c1_1)) (ds := []) (bl 5 0) (by kernel_rfl) rfl rfl ⟨(blk_cell BK378.out 0).trans rfl, (blk_cell BK378.out 1).trans rfl, (blk_cell BK351.out 0).trans rfl, (blk_cell BK351.out 1).trans rfl⟩ (fun hHeld => ?_)
                generalize w118.drew = w119 at HO_374001 HO_379001 HO390 BK350 BK351 BK368 BK373 BK378 BK385 HB hHeld ⊢
                refine tk 0 54 (bl 5 1) ?_ hHeld
                refine tk 1 55 (bl 5 3) ?_ hHeld
                refine oe 2 56 (bl 5 7) (fun K hK => ?_)
                refine gs Try.func22 #[.agg #[.string a1_0, .slice A1_1 l1_1.length c1_1]] ?_
                with_reducible refine (laws_toProbeTube.calls kj24 a1_0 _ _ l1_1 t392 t393 _ ?side1 ?side2 A104.out).mono ?_
                (case side1 => exact sc HR1_1)
                (case side2 => exact HC1_1.out)
                rintro e w120 ⟨v394, rfl, ho0, hb⟩
                refine ⟨_, rfl, ?_⟩
                have n0 := ra (Kd.R_elder' (rq HO_374001) (Kd.R_base ho0) hb)
                have n1 := ra (Kd.R_elder' (rq HO_379001) (Kd.R_base ho0) hb)
                have n2 := ra (Kd.R_elder' (rq HO390) (Kd.R_base ho0) hb)
                have n3 := ra (Kd.R_lower (Kd.R_new' (Kd.R_new' (Kd.R_new' ho0 (Kd.R_lt (rq HO_374001))) (Kd.R_lt (rq HO_379001))) (Kd.R_lt (rq HO390))) (below_size bq))
                have n4 := bb (bk BK350) hb
                have n5 := bb (bk BK351) hb
                have n6 := bb (bk BK368) hb
                have n7 := bb (bk BK373) hb
                have n8_ := bb (bk BK378) hb
                have n9_ := bb (bk BK385) hb
                have n10_ := bs hb
                clear HO_374001 HO_379001 HO390 BK350 BK351 BK368 BK373 BK378 BK385 HB
                have HO_374001 := n0
                have HO_379001 := n1
                have HO390 := n2
                have HO395 := n3
                have BK350 := n4
                have BK351 := n5
                have BK368 := n6
                have BK373 := n7
                have BK378 := n8_
                have BK385 := n9_
                have HB := n10_
                clear n0 n1 n2 n3 n4 n5 n6 n7 n8_ n9_ n10_
                (try clear hb)
                (try clear hb2)
                (try clear hk)
                (try clear hi)
                (try clear ho0)
                obtain ⟨Ao121, co121, eo121⟩ := Kd.R_slice HO395.out
                (first | subst eo121 | (injection eo121 with f1_ f2_ f3_; have f4_ := f1_.symm; have f5_ := f3_.symm; clear f1_ f2_ f3_; subst f4_; subst f5_))
                refine hK.out _ _ ⟨(blk_cell BK378.out 0).trans rfl, (blk_cell BK378.out 1).trans rfl, (blk_cell BK351.out 0).trans rfl, (blk_cell BK351.out 1).trans rfl⟩ (fun hHeld => ?_)
                clear hK K
                refine nm 56 ?_
                refine oe 3 57 (bl 5 15) (fun K hK => ?_)
                refine gs Try.func24 #[.agg #[.string t374, .slice Ao64 t375.length co64], .agg #[.string t392, .slice Ao121 t393.length co121]] ?_
                with_reducible refine (laws_eqProbeTube.calls kj24 t374 _ _ t375 t392 _ _ t393 false _ ?side1 ?side2 ?side3 ?side4 A105.out).mono ?_
                (case side1 => exact sr HO_379001)
                (case side2 => exact (Kd.R_reads' HO_379001.out).2.1)
                (case side3 => exact sr HO395)
                (case side4 => exact (Kd.R_reads' HO395.out).2.1)
                rintro e w122 ⟨rfl, hb⟩
                refine ⟨_, rfl, ?_⟩
                have n0 := ra (Kd.R_below (rq HO_374001) hb)
                have n1 := ra (Kd.R_below (rq HO_379001) hb)
                have n2 := ra (Kd.R_below (rq HO390) hb)
                have n3 := ra (Kd.R_below (rq HO395) hb)
                have n4 := bb (bk BK350) hb
                have n5 := bb (bk BK351) hb
                have n6 := bb (bk BK368) hb
                have n7 := bb (bk BK373) hb
                have n8_ := bb (bk BK378) hb
                have n9_ := bb (bk BK385) hb
                have n10_ := bs hb
                clear HO_374001 HO_379001 HO390 HO395 BK350 BK351 BK368 BK373 BK378 BK385 HB
                have HO_374001 := n0
                have HO_379001 := n1
                have HO390 := n2
                have HO395 := n3
                have BK350 := n4
                have BK351 := n5
                have BK368 := n6
                have BK373 := n7
                have BK378 := n8_
                have BK385 := n9_
                have HB := n10_
                clear n0 n1 n2 n3 n4 n5 n6 n7 n8_ n9_ n10_
                (try clear hb)
                (try clear hb2)
                (try clear hk)
                (try clear hi)
                refine hK.out _ _ ⟨(blk_cell BK378.out 0).trans rfl, (blk_cell BK378.out 1).trans rfl, (blk_cell BK351.out 0).trans rfl, (blk_cell BK351.out 1).trans rfl⟩ (fun hHeld => ?_)
                clear hK K
                refine nm 57 ?_
                refine pu 4 58 (bl 5 31) ?_
                refine done_ (by kernel_rfl) ?_
                try go_wp2
                go_ret
                exact ⟨re, bq⟩
            · replace c103 := Bool.eq_false_iff.mpr c103
              subst c103
              have H1 : (some false) = some r := by rw [if_neg (show ¬ (false = true) by decide)] at H; exact H
              clear H
              have H := H1
              clear H1
              obtain rfl := Option.some.inj H
              try go_wp2
              have n0 := ra (Kd.R_drew HO_374001.out)
              have n1 := ra (Kd.R_drew HO_379001.out)
              have n2 := ra (blk_drew BK350.out)
              have n3 := ra (blk_drew BK351.out)
              have n4 := ra (blk_drew BK368.out)
              have n5 := ra (blk_drew BK373.out)
              have n6 := ra (blk_drew BK378.out)
              have n7 := ra (blk_drew BK385.out)
              have n8_ := ra (below_drew1 HB.out)
              clear HO_374001 HO_379001 BK350 BK351 BK368 BK373 BK378 BK385 HB
              have HO_374001 := n0
              have HO_379001 := n1
              have BK350 := n2
              have BK351 := n3
              have BK368 := n4
              have BK373 := n5
              have BK378 := n6
              have BK385 := n7
              have HB := n8_
              clear n0 n1 n2 n3 n4 n5 n6 n7 n8_
              refine start_ (n := 5) (S := fun w' => w'.cell? ⟨gb373, 0, none⟩ = some (.string t369) ∧ w'.cell? ⟨gb373, 1, none⟩ = some (.slice Ao54 t370.length co54) ∧ w'.cell? ⟨gb350, 0, none⟩ = some (.string a0_0) ∧ w'.cell? ⟨gb350, 1, none⟩ = some (.slice A0_1 l0_1.length c0_1)) (ds := []) (bl 5 0) (by kernel_rfl) rfl rfl ⟨(blk_cell BK373.out 0).trans rfl, (blk_cell BK373.out 1).trans rfl, (blk_cell BK350.out 0).trans rfl, (blk_cell BK350.out 1).trans rfl⟩ (fun hHeld => ?_)
              generalize wc.drew = w123 at HO_374001 HO_379001 BK350 BK351 BK368 BK373 BK378 BK385 HB hHeld ⊢
              refine tk 0 49 (bl 5 1) ?_ hHeld
              refine tk 1 50 (bl 5 3) ?_ hHeld
              refine oe 2 51 (bl 5 7) (fun K hK => ?_)
              refine gs Try.func22 #[.agg #[.string a0_0, .slice A0_1 l0_1.length c0_1]] ?_
              with_reducible refine (laws_toProbeTube.calls kj24 a0_0 _ _ l0_1 t387 t388 _ ?side1 ?side2 A101.out).mono ?_
              (case side1 => exact sc HR0_1)
              (case side2 => exact HC0_1.out)
              rintro e w124 ⟨v389, rfl, ho0, hb⟩
              refine ⟨_, rfl, ?_⟩
              have n0 := ra (Kd.R_elder' (rq HO_374001) (Kd.R_base ho0) hb)
              have n1 := ra (Kd.R_elder' (rq HO_379001) (Kd.R_base ho0) hb)
              have n2 := ra (Kd.R_lower (Kd.R_new' (Kd.R_new' ho0 (Kd.R_lt (rq HO_374001))) (Kd.R_lt (rq HO_379001))) (below_size bq))
              have n3 := bb (bk BK350) hb
              have n4 := bb (bk BK351) hb
              have n5 := bb (bk BK368) hb
              have n6 := bb (bk BK373) hb
              have n7 := bb (bk BK378) hb
              have n8_ := bb (bk BK385) hb
              have n9_ := bs hb
              clear HO_374001 HO_379001 BK350 BK351 BK368 BK373 BK378 BK385 HB
              have HO_374001 := n0
              have HO_379001 := n1
              have HO390 := n2
              have BK350 := n3
              have BK351 := n4
              have BK368 := n5
              have BK373 := n6
              have BK378 := n7
              have BK385 := n8_
              have HB := n9_
              clear n0 n1 n2 n3 n4 n5 n6 n7 n8_ n9_
              (try clear hb)
              (try clear hb2)
              (try clear hk)
              (try clear hi)
              (try clear ho0)
              obtain ⟨Ao125, co125, eo125⟩ := Kd.R_slice HO390.out
              (first | subst eo125 | (injection eo125 with f1_ f2_ f3_; have f4_ := f1_.symm; have f5_ := f3_.symm; clear f1_ f2_ f3_; subst f4_; subst f5_))
              refine hK.out _ _ ⟨(blk_cell BK373.out 0).trans rfl, (blk_cell BK373.out 1).trans rfl, (blk_cell BK350.out 0).trans rfl, (blk_cell BK350.out 1).trans rfl⟩ (fun hHeld => ?_)
              clear hK K
              refine nm 51 ?_
              refine oe 3 52 (bl 5 15) (fun K hK => ?_)
              refine gs Try.func24 #[.agg #[.string t369, .slice Ao54 t370.length co54], .agg #[.string t387, .slice Ao125 t388.length co125]] ?_
              with_reducible refine (laws_eqProbeTube.calls kj24 t369 _ _ t370 t387 _ _ t388 false _ ?side1 ?side2 ?side3 ?side4 A102.out).mono ?_
              (case side1 => exact sr HO_374001)
              (case side2 => exact (Kd.R_reads' HO_374001.out).2.1)
              (case side3 => exact sr HO390)
              (case side4 => exact (Kd.R_reads' HO390.out).2.1)
              rintro e w126 ⟨rfl, hb⟩
              refine ⟨_, rfl, ?_⟩
              have n0 := ra (Kd.R_below (rq HO_374001) hb)
              have n1 := ra (Kd.R_below (rq HO_379001) hb)
              have n2 := ra (Kd.R_below (rq HO390) hb)
              have n3 := bb (bk BK350) hb
              have n4 := bb (bk BK351) hb
              have n5 := bb (bk BK368) hb
              have n6 := bb (bk BK373) hb
              have n7 := bb (bk BK378) hb
              have n8_ := bb (bk BK385) hb
              have n9_ := bs hb
              clear HO_374001 HO_379001 HO390 BK350 BK351 BK368 BK373 BK378 BK385 HB
              have HO_374001 := n0
              have HO_379001 := n1
              have HO390 := n2
              have BK350 := n3
              have BK351 := n4
              have BK368 := n5
              have BK373 := n6
              have BK378 := n7
              have BK385 := n8_
              have HB := n9_
              clear n0 n1 n2 n3 n4 n5 n6 n7 n8_ n9_
              (try clear hb)
              (try clear hb2)
              (try clear hk)
              (try clear hi)
              refine hK.out _ _ ⟨(blk_cell BK373.out 0).trans rfl, (blk_cell BK373.out 1).trans rfl, (blk_cell BK350.out 0).trans rfl, (blk_cell BK350.out 1).trans rfl⟩ (fun hHeld => ?_)
              clear hK K
              refine nm 52 ?_
              refine pu 4 53 (bl 5 31) ?_
              refine done_ (by kernel_rfl) ?_
              try go_wp2
              go_ret
              exact ⟨re, bq⟩
end Go.Proofs.Ytfoapgcnjnogiaa.PA
