/- Contracts of the functions spec_ProbeFree, impl_ProbeFree. (Began as a print of the kit's tool.) -/
import Derived.Test.YtfoapgcnjnogiaaPAd
import Derived.Test.YtfoapgcnjnogiaaCx
import Derived.Test.YtfoapgcnjnogiaaGSky
import Derived.Test.YtfoapgcnjnogiaaGBase
import Derived.Test.YtfoapgcnjnogiaaGWith
namespace Go.Proofs.Ytfoapgcnjnogiaa.PA
open Go.RowKit Go.Proofs.YtfoapgcnjnogiaaW.PrintWords Go.Proofs.YtfoapgcnjnogiaaW.PrintLast Go.Proofs.YtfoapgcnjnogiaaW.PrintMore Go.Proofs.Ytfoapgcnjnogiaa.Z
attribute [local go_sem] max2_int min2_int max_two min_two max_three min_three max_four min_four
set_option linter.unusedVariables false
set_option linter.unusedSimpArgs false
set_option maxHeartbeats 8000000 in
set_option maxRecDepth 100000 in
theorem spec_ProbeFree.calls (k : Nat) (A0 : Option Addr) (c0 : Nat) (l0 : List (S39)) (a1_0 : ByteArray) (A1_1 : Option Addr) (c1_1 : Nat) (l1_1 : List (S26)) (r : Bool) (w : World) (hr0 : Kd.C k39 w A0 l0.length l0) (hc0 : l0.length ≤ c0) (hr1_1 : Kd.C k26 w A1_1 l1_1.length l1_1) (hc1_1 : l1_1.length ≤ c1_1) (h : spec_ProbeFree.f k l0 a1_0 l1_1 = some r) :
    Calls Try.prog 39 #[.slice A0 l0.length c0, .agg #[.string a1_0, .slice A1_1 l1_1.length c1_1]] w fun e w' => e = .returned (.bool r) ∧ Below w.heap.size w w' := by
  have hu39 := Try.underlying39
  have HR0 := Aside0.mk hr0
  have HC0 := Aside0.mk hc0
  clear hr0 hc0
  have HR1_1 := Aside0.mk hr1_1
  have HC1_1 := Aside0.mk hc1_1
  clear hr1_1 hc1_1
  have HB := ra (Below.refl w.heap.size w)
  have H : ((spec_ProbeSkyOk.f k l0).bind fun t496 => (if t496 = true then ((spec_ProbeTubeOk.f k a1_0 l1_1).bind fun t497 => (if t497 = true then ((spec_l4With.f k l0 a1_0 l1_1).bind fun t498 => (some ((t498.length : Int) == 0))) else (some false))) else (some false))) = some r := h
  clear h
  obtain ⟨t496, A3, H⟩ := bo H
  by_cases c4 : t496 = true
  · subst c4
    replace H := it H rfl
    obtain ⟨t497, A5, H⟩ := bo H
    by_cases c6 : t497 = true
    · subst c6
      replace H := it H rfl
      obtain ⟨t498, A7, H⟩ := bo H
      obtain rfl := Option.some.inj H
      go_enter Try.func39, Try.ntmps39
      go_wp2_with (first | ((with_reducible refine gate_dst (N := 3) rfl ?_); (try (refine gate_guard (by rfl) ?_; dsimp only)); refine be 3 #[.string a1_0, .slice A1_1 l1_1.length c1_1] 39 ?_; intro gb495 hg w8 hbox hb; have n0 := bs hb; have n1 := ra (hbox); have n2 := bz (w0 := w) hg; have n3 := bz (w0 := w) hg; clear HB; have HB := n0; have BK495 := n1; have GW495 := n2; have GE495 := n3; clear n0 n1 n2 n3; clear hb hbox hg) | ((with_reducible refine gate_callee (f := 28) rfl ?_); refine gl (some 6) Try.func28 #[.slice A0 l0.length c0] ?_; (with_reducible refine (spec_ProbeSkyOk.calls k _ _ l0 true _ ?side1 ?side2 A3.out).mono ?_); (case side1 => exact sc HR0); (case side2 => exact HC0.out); rintro e w9 ⟨rfl, hb⟩; refine ⟨_, rfl, ?_⟩; have n0 := bb (bk BK495) hb; have n1 := bs hb; clear BK495 HB; have BK495 := n0; have HB := n1; clear n0 n1; (try clear hb); (try clear hb2); (try clear hk); (try clear hi); obtain ⟨hcz10_0, hcz10_1, hfz10_0, hfz10_1⟩ := zc2 BK495) | (go_at_call 21; (with_reducible refine (spec_ProbeTubeOk.calls k a1_0 _ _ l1_1 true _ ?side1 ?side2 A5.out).mono ?_); (case side1 => exact sc HR1_1); (case side2 => exact HC1_1.out); rintro e w11 ⟨rfl, hb⟩; have n0 := bb (bk BK495) hb; have n1 := bs hb; clear BK495 HB; have BK495 := n0; have HB := n1; clear n0 n1; (try clear hb); (try clear hb2); (try clear hk); (try clear hi); obtain ⟨hcz12_0, hcz12_1, hfz12_0, hfz12_1⟩ := zc2 BK495) | (go_at_call 61; (with_reducible refine (spec_l4With.calls k _ _ l0 a1_0 _ _ l1_1 t498 _ ?side1 ?side2 ?side3 ?side4 A7.out).mono ?_); (case side1 => exact sc HR0); (case side2 => exact HC0.out); (case side3 => exact sc HR1_1); (case side4 => exact HC1_1.out); rintro e w13 ⟨v499, rfl, ho0, hb⟩; have n0 := ra (Kd.R_lower ho0 (below_size bq)); have n1 := bb (bk BK495) hb; have n2 := bs hb; clear BK495 HB; have HO500 := n0; have BK495 := n1; have HB := n2; clear n0 n1 n2; (try clear hb); (try clear hb2); (try clear hk); (try clear hi); (try clear ho0); obtain ⟨Ao14, co14, eo14⟩ := Kd.R_slice HO500.out; subst eo14))
      go_ret
      exact ⟨re, bq⟩
    · replace c6 := Bool.eq_false_iff.mpr c6
      subst c6
      have H1 : (some false) = some r := by rw [if_neg (show ¬ (false = true) by decide)] at H; exact H
      clear H
      have H := H1
      clear H1
      obtain rfl := Option.some.inj H
      go_enter Try.func39, Try.ntmps39
      go_wp2_with (first | ((with_reducible refine gate_dst (N := 3) rfl ?_); (try (refine gate_guard (by rfl) ?_; dsimp only)); refine be 3 #[.string a1_0, .slice A1_1 l1_1.length c1_1] 39 ?_; intro gb495 hg w15 hbox hb; have n0 := bs hb; have n1 := ra (hbox); have n2 := bz (w0 := w) hg; have n3 := bz (w0 := w) hg; clear HB; have HB := n0; have BK495 := n1; have GW495 := n2; have GE495 := n3; clear n0 n1 n2 n3; clear hb hbox hg) | ((with_reducible refine gate_callee (f := 28) rfl ?_); refine gl (some 6) Try.func28 #[.slice A0 l0.length c0] ?_; (with_reducible refine (spec_ProbeSkyOk.calls k _ _ l0 true _ ?side1 ?side2 A3.out).mono ?_); (case side1 => exact sc HR0); (case side2 => exact HC0.out); rintro e w16 ⟨rfl, hb⟩; refine ⟨_, rfl, ?_⟩; have n0 := bb (bk BK495) hb; have n1 := bs hb; clear BK495 HB; have BK495 := n0; have HB := n1; clear n0 n1; (try clear hb); (try clear hb2); (try clear hk); (try clear hi); obtain ⟨hcz17_0, hcz17_1, hfz17_0, hfz17_1⟩ := zc2 BK495) | (go_at_call 21; (with_reducible refine (spec_ProbeTubeOk.calls k a1_0 _ _ l1_1 false _ ?side1 ?side2 A5.out).mono ?_); (case side1 => exact sc HR1_1); (case side2 => exact HC1_1.out); rintro e w18 ⟨rfl, hb⟩; have n0 := bb (bk BK495) hb; have n1 := bs hb; clear BK495 HB; have BK495 := n0; have HB := n1; clear n0 n1; (try clear hb); (try clear hb2); (try clear hk); (try clear hi)))
      go_ret
      exact ⟨re, bq⟩
  · replace c4 := Bool.eq_false_iff.mpr c4
    subst c4
    have H1 : (some false) = some r := by rw [if_neg (show ¬ (false = true) by decide)] at H; exact H
    clear H
    have H := H1
    clear H1
    obtain rfl := Option.some.inj H
    go_enter Try.func39, Try.ntmps39
    go_wp2_with (first | ((with_reducible refine gate_dst (N := 3) rfl ?_); (try (refine gate_guard (by rfl) ?_; dsimp only)); refine be 3 #[.string a1_0, .slice A1_1 l1_1.length c1_1] 39 ?_; intro gb495 hg w19 hbox hb; have n0 := bs hb; have n1 := ra (hbox); have n2 := bz (w0 := w) hg; have n3 := bz (w0 := w) hg; clear HB; have HB := n0; have BK495 := n1; have GW495 := n2; have GE495 := n3; clear n0 n1 n2 n3; clear hb hbox hg) | ((with_reducible refine gate_callee (f := 28) rfl ?_); refine gl (some 6) Try.func28 #[.slice A0 l0.length c0] ?_; (with_reducible refine (spec_ProbeSkyOk.calls k _ _ l0 false _ ?side1 ?side2 A3.out).mono ?_); (case side1 => exact sc HR0); (case side2 => exact HC0.out); rintro e w20 ⟨rfl, hb⟩; refine ⟨_, rfl, ?_⟩; have n0 := bb (bk BK495) hb; have n1 := bs hb; clear BK495 HB; have BK495 := n0; have HB := n1; clear n0 n1; (try clear hb); (try clear hb2); (try clear hk); (try clear hi)))
    go_ret
    exact ⟨re, bq⟩
set_option maxHeartbeats 8000000 in
set_option maxRecDepth 100000 in
theorem impl_ProbeFree.calls (k : Nat) (A0 : Option Addr) (c0 : Nat) (l0 : List (S39)) (a1_0 : ByteArray) (A1_1 : Option Addr) (c1_1 : Nat) (l1_1 : List (S26)) (r : Bool) (w : World) (hr0 : Kd.C k39 w A0 l0.length l0) (hc0 : l0.length ≤ c0) (hr1_1 : Kd.C k26 w A1_1 l1_1.length l1_1) (hc1_1 : l1_1.length ≤ c1_1) (h : impl_ProbeFree.f k l0 a1_0 l1_1 = some r) :
    Calls Try.prog 40 #[.slice A0 l0.length c0, .agg #[.string a1_0, .slice A1_1 l1_1.length c1_1]] w fun e w' => e = .returned (.bool r) ∧ Below w.heap.size w w' := by
  have hu39 := Try.underlying39
  have HR0 := Aside0.mk hr0
  have HC0 := Aside0.mk hc0
  clear hr0 hc0
  have HR1_1 := Aside0.mk hr1_1
  have HC1_1 := Aside0.mk hc1_1
  clear hr1_1 hc1_1
  have HB := ra (Below.refl w.heap.size w)
  have H : ((impl_ProbeSkyOk.f k l0).bind fun t520 => (if t520 = true then ((impl_ProbeTubeOk.f k a1_0 l1_1).bind fun t521 => (if t521 = true then ((impl_ProbeWith.f k l0 a1_0 l1_1).bind fun t522 => (some ((t522.length : Int) == 0))) else (some false))) else (some false))) = some r := h
  clear h
  obtain ⟨t520, A3, H⟩ := bo H
  by_cases c4 : t520 = true
  · subst c4
    replace H := it H rfl
    obtain ⟨t521, A5, H⟩ := bo H
    by_cases c6 : t521 = true
    · subst c6
      replace H := it H rfl
      obtain ⟨t522, A7, H⟩ := bo H
      obtain rfl := Option.some.inj H
      go_enter Try.func40, Try.ntmps40
      go_wp2_with (first | ((with_reducible refine gate_dst (N := 3) rfl ?_); (try (refine gate_guard (by rfl) ?_; dsimp only)); refine be 3 #[.string a1_0, .slice A1_1 l1_1.length c1_1] 39 ?_; intro gb519 hg w8 hbox hb; have n0 := bs hb; have n1 := ra (hbox); have n2 := bz (w0 := w) hg; have n3 := bz (w0 := w) hg; clear HB; have HB := n0; have BK519 := n1; have GW519 := n2; have GE519 := n3; clear n0 n1 n2 n3; clear hb hbox hg) | ((with_reducible refine gate_callee (f := 30) rfl ?_); refine gl (some 6) Try.func30 #[.slice A0 l0.length c0] ?_; (with_reducible refine (impl_ProbeSkyOk.calls k _ _ l0 true _ ?side1 ?side2 A3.out).mono ?_); (case side1 => exact sc HR0); (case side2 => exact HC0.out); rintro e w9 ⟨rfl, hb⟩; refine ⟨_, rfl, ?_⟩; have n0 := bb (bk BK519) hb; have n1 := bs hb; clear BK519 HB; have BK519 := n0; have HB := n1; clear n0 n1; (try clear hb); (try clear hb2); (try clear hk); (try clear hi); obtain ⟨hcz10_0, hcz10_1, hfz10_0, hfz10_1⟩ := zc2 BK519) | (go_at_call 23; (with_reducible refine (impl_ProbeTubeOk.calls k a1_0 _ _ l1_1 true _ ?side1 ?side2 A5.out).mono ?_); (case side1 => exact sc HR1_1); (case side2 => exact HC1_1.out); rintro e w11 ⟨rfl, hb⟩; have n0 := bb (bk BK519) hb; have n1 := bs hb; clear BK519 HB; have BK519 := n0; have HB := n1; clear n0 n1; (try clear hb); (try clear hb2); (try clear hk); (try clear hi); obtain ⟨hcz12_0, hcz12_1, hfz12_0, hfz12_1⟩ := zc2 BK519) | (go_at_call 62; (with_reducible refine (impl_ProbeWith.calls k _ _ l0 a1_0 _ _ l1_1 t522 _ ?side1 ?side2 ?side3 ?side4 A7.out).mono ?_); (case side1 => exact sc HR0); (case side2 => exact HC0.out); (case side3 => exact sc HR1_1); (case side4 => exact HC1_1.out); rintro e w13 ⟨v523, rfl, ho0, hb⟩; have n0 := ra (Kd.R_lower ho0 (below_size bq)); have n1 := bb (bk BK519) hb; have n2 := bs hb; clear BK519 HB; have HO524 := n0; have BK519 := n1; have HB := n2; clear n0 n1 n2; (try clear hb); (try clear hb2); (try clear hk); (try clear hi); (try clear ho0); obtain ⟨Ao14, co14, eo14⟩ := Kd.R_slice HO524.out; subst eo14))
      go_ret
      exact ⟨re, bq⟩
    · replace c6 := Bool.eq_false_iff.mpr c6
      subst c6
      have H1 : (some false) = some r := by rw [if_neg (show ¬ (false = true) by decide)] at H; exact H
      clear H
      have H := H1
      clear H1
      obtain rfl := Option.some.inj H
      go_enter Try.func40, Try.ntmps40
      go_wp2_with (first | ((with_reducible refine gate_dst (N := 3) rfl ?_); (try (refine gate_guard (by rfl) ?_; dsimp only)); refine be 3 #[.string a1_0, .slice A1_1 l1_1.length c1_1] 39 ?_; intro gb519 hg w15 hbox hb; have n0 := bs hb; have n1 := ra (hbox); have n2 := bz (w0 := w) hg; have n3 := bz (w0 := w) hg; clear HB; have HB := n0; have BK519 := n1; have GW519 := n2; have GE519 := n3; clear n0 n1 n2 n3; clear hb hbox hg) | ((with_reducible refine gate_callee (f := 30) rfl ?_); refine gl (some 6) Try.func30 #[.slice A0 l0.length c0] ?_; (with_reducible refine (impl_ProbeSkyOk.calls k _ _ l0 true _ ?side1 ?side2 A3.out).mono ?_); (case side1 => exact sc HR0); (case side2 => exact HC0.out); rintro e w16 ⟨rfl, hb⟩; refine ⟨_, rfl, ?_⟩; have n0 := bb (bk BK519) hb; have n1 := bs hb; clear BK519 HB; have BK519 := n0; have HB := n1; clear n0 n1; (try clear hb); (try clear hb2); (try clear hk); (try clear hi); obtain ⟨hcz17_0, hcz17_1, hfz17_0, hfz17_1⟩ := zc2 BK519) | (go_at_call 23; (with_reducible refine (impl_ProbeTubeOk.calls k a1_0 _ _ l1_1 false _ ?side1 ?side2 A5.out).mono ?_); (case side1 => exact sc HR1_1); (case side2 => exact HC1_1.out); rintro e w18 ⟨rfl, hb⟩; have n0 := bb (bk BK519) hb; have n1 := bs hb; clear BK519 HB; have BK519 := n0; have HB := n1; clear n0 n1; (try clear hb); (try clear hb2); (try clear hk); (try clear hi)))
      go_ret
      exact ⟨re, bq⟩
  · replace c4 := Bool.eq_false_iff.mpr c4
    subst c4
    have H1 : (some false) = some r := by rw [if_neg (show ¬ (false = true) by decide)] at H; exact H
    clear H
    have H := H1
    clear H1
    obtain rfl := Option.some.inj H
    go_enter Try.func40, Try.ntmps40
    go_wp2_with (first | ((with_reducible refine gate_dst (N := 3) rfl ?_); (try (refine gate_guard (by rfl) ?_; dsimp only)); refine be 3 #[.string a1_0, .slice A1_1 l1_1.length c1_1] 39 ?_; intro gb519 hg w19 hbox hb; have n0 := bs hb; have n1 := ra (hbox); have n2 := bz (w0 := w) hg; have n3 := bz (w0 := w) hg; clear HB; have HB := n0; have BK519 := n1; have GW519 := n2; have GE519 := n3; clear n0 n1 n2 n3; clear hb hbox hg) | ((with_reducible refine gate_callee (f := 30) rfl ?_); refine gl (some 6) Try.func30 #[.slice A0 l0.length c0] ?_; (with_reducible refine (impl_ProbeSkyOk.calls k _ _ l0 false _ ?side1 ?side2 A3.out).mono ?_); (case side1 => exact sc HR0); (case side2 => exact HC0.out); rintro e w20 ⟨rfl, hb⟩; refine ⟨_, rfl, ?_⟩; have n0 := bb (bk BK519) hb; have n1 := bs hb; clear BK519 HB; have BK519 := n0; have HB := n1; clear n0 n1; (try clear hb); (try clear hb2); (try clear hk); (try clear hi)))
    go_ret
    exact ⟨re, bq⟩
end Go.Proofs.Ytfoapgcnjnogiaa.PA
