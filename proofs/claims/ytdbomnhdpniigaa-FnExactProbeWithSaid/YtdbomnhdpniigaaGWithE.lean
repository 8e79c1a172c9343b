/- Contracts of the functions spec_ProbeWith. (Began as a print of the kit's tool.) -/
import Derived.Test.YtdbomnhdpniigaaPAd
import Derived.Test.YtdbomnhdpniigaaCx
import Derived.Test.YtdbomnhdpniigaaGSkyS
import Derived.Test.YtdbomnhdpniigaaGBase
import Derived.Test.YtdbomnhdpniigaaGWithS
namespace Go.Proofs.Ytdbomnhdpniigaa.PA
open Go.RowKit Go.Proofs.YtdbomnhdpniigaaW.PrintWords Go.Proofs.YtdbomnhdpniigaaW.PrintLast Go.Proofs.YtdbomnhdpniigaaW.PrintMore Go.Proofs.Ytdbomnhdpniigaa.Z
attribute [local go_sem] max2_int min2_int max_two min_two max_three min_three max_four min_four
set_option linter.unusedVariables false
set_option linter.unusedSimpArgs false
set_option maxHeartbeats 8000000 in
set_option maxRecDepth 100000 in
theorem spec_ProbeWith.calls (k : Nat) (A0 : Option Addr) (c0 : Nat) (l0 : List (S40)) (a1_0 : ByteArray) (A1_1 : Option Addr) (c1_1 : Nat) (l1_1 : List (S95)) (r : List (S49)) (w : World) (hr0 : Kd.C k40 w A0 l0.length l0) (hc0 : l0.length ≤ c0) (hr1_1 : Kd.C k95 w A1_1 l1_1.length l1_1) (hc1_1 : l1_1.length ≤ c1_1) (h : spec_ProbeWith.f k l0 a1_0 l1_1 = some r) :
  Calls Try.prog 19 #[.slice A0 l0.length c0, .agg #[.string a1_0, .slice A1_1 l1_1.length c1_1]] w fun e w' => ∃ v0_ : Value, e = .returned (v0_) ∧ Kd.R k49 49 w' w.heap.size (fun _ => True) v0_ r ∧ Below w.heap.size w w' := by
 have hu40 := Try.underlying40
 have HR0 := Aside0.mk hr0
 have HC0 := Aside0.mk hc0
 clear hr0 hc0
 have HR1_1 := Aside0.mk hr1_1
 have HC1_1 := Aside0.mk hc1_1
 clear hr1_1 hc1_1
 have HB := ra (Below.refl w.heap.size w)
 have H : ((spec_ProbeSkyOk.f k l0).bind fun t320 => (if t320 = true then ((spec_ProbeTubeOk.f k a1_0 l1_1).bind fun t321 => (if t321 = true then ((spec_l4With.f k l0 a1_0 l1_1).bind fun t322 => (some t322)) else (some (([] : List (S49)))))) else (some (([] : List (S49)))))) = some r := h
 clear h
 obtain ⟨t320, A3, H⟩ := bo H
 by_cases c4 : t320 = true
 ·subst c4
  replace H := it H rfl
  obtain ⟨t321, A5, H⟩ := bo H
  by_cases c6 : t321 = true
  ·subst c6
   replace H := it H rfl
   obtain ⟨t322, A7, H⟩ := bo H
   obtain rfl := Option.some.inj H
   go_enter Try.func19, Try.ntmps19
   go_wp2_with (first | ((with_reducible refine gate_dst (N := 3) rfl ?_); refine be 3 #[.string a1_0, .slice A1_1 l1_1.length c1_1] 40 ?_; intro gb319 hg w8 hbox hb; have _ := bs hb; have _ := ra (hbox); have _ := bz (w0 := w) hg; have _ := bz (w0 := w) hg; clear HB; rename_i HB BK319 GW319 GE319; clear hb hbox hg) | ((with_reducible refine gate_callee (f := 27) rfl ?_); refine gl (some 6) Try.func27 #[.slice A0 l0.length c0] ?_; (with_reducible refine (spec_ProbeSkyOk.calls k _ _ l0 true _ ?side1 ?side2 A3.out).mono ?_); (case side1 => exact sc HR0); (case side2 => exact HC0.out); rintro e w9 ⟨rfl, hb⟩; refine ⟨_, rfl, ?_⟩; have _ := bb (bk BK319) hb; have _ := bs hb; clear BK319 HB; rename_i BK319 HB; (try clear hb); (try clear hb2); (try clear hk); (try clear hi); obtain ⟨hcz10_0, hcz10_1, hfz10_0, hfz10_1⟩ := zc2 BK319) | (go_at_call 51; (with_reducible refine (spec_ProbeTubeOk.calls k a1_0 _ _ l1_1 true _ ?side1 ?side2 A5.out).mono ?_); (case side1 => exact sc HR1_1); (case side2 => exact HC1_1.out); rintro e w11 ⟨rfl, hb⟩; have _ := bb (bk BK319) hb; have _ := bs hb; clear BK319 HB; rename_i BK319 HB; (try clear hb); (try clear hb2); (try clear hk); (try clear hi); obtain ⟨hcz12_0, hcz12_1, hfz12_0, hfz12_1⟩ := zc2 BK319) | ((with_reducible refine gate_callee (f := 52) rfl ?_); refine gl (some 16) Try.func52 #[.slice A0 l0.length c0, .agg #[.string a1_0, .slice A1_1 l1_1.length c1_1]] ?_; (with_reducible refine (spec_l4With.calls k _ _ l0 a1_0 _ _ l1_1 t322 _ ?side1 ?side2 ?side3 ?side4 A7.out).mono ?_); (case side1 => exact sc HR0); (case side2 => exact HC0.out); (case side3 => exact sc HR1_1); (case side4 => exact HC1_1.out); rintro e w13 ⟨v323, rfl, ho0, hb⟩; refine ⟨_, rfl, ?_⟩; have _ := ra (Kd.R_lower ho0 (below_size bq)); have _ := bb (bk BK319) hb; have _ := bs hb; clear BK319 HB; rename_i HO324 BK319 HB; (try clear hb); (try clear hb2); (try clear hk); (try clear hi); (try clear ho0)))
   go_ret
   exact ⟨_, re, rq HO324, bq⟩
  ·replace c6 := Bool.eq_false_iff.mpr c6
   subst c6
   have H1 : (some (([] : List (S49)))) = some r := by rw [if_neg (show ¬ (false = true) by decide)] at H; exact H
   clear H
   have H := H1
   clear H1
   obtain ⟨y325, hy_⟩ : ∃ y_ : List (S49), y_ = (([] : List (S49))) := ⟨_, rfl⟩
   replace H : (some y325) = some r := yh
   have Ny325 := ra hy_
   clear hy_
   obtain rfl := Option.some.inj H
   go_enter Try.func19, Try.ntmps19
   go_wp2_with (first | ((with_reducible refine gate_dst (N := 3) rfl ?_); refine be 3 #[.string a1_0, .slice A1_1 l1_1.length c1_1] 40 ?_; intro gb319 hg w14 hbox hb; have _ := bs hb; have _ := ra (hbox); have _ := bz (w0 := w) hg; have _ := bz (w0 := w) hg; clear HB; rename_i HB BK319 GW319 GE319; clear hb hbox hg) | ((with_reducible refine gate_callee (f := 27) rfl ?_); refine gl (some 6) Try.func27 #[.slice A0 l0.length c0] ?_; (with_reducible refine (spec_ProbeSkyOk.calls k _ _ l0 true _ ?side1 ?side2 A3.out).mono ?_); (case side1 => exact sc HR0); (case side2 => exact HC0.out); rintro e w15 ⟨rfl, hb⟩; refine ⟨_, rfl, ?_⟩; have _ := bb (bk BK319) hb; have _ := bs hb; clear BK319 HB; rename_i BK319 HB; (try clear hb); (try clear hb2); (try clear hk); (try clear hi); obtain ⟨hcz16_0, hcz16_1, hfz16_0, hfz16_1⟩ := zc2 BK319) | (go_at_call 51; (with_reducible refine (spec_ProbeTubeOk.calls k a1_0 _ _ l1_1 false _ ?side1 ?side2 A5.out).mono ?_); (case side1 => exact sc HR1_1); (case side2 => exact HC1_1.out); rintro e w17 ⟨rfl, hb⟩; have _ := bb (bk BK319) hb; have _ := bs hb; clear BK319 HB; rename_i BK319 HB; (try clear hb); (try clear hb2); (try clear hk); (try clear hi)) | ((with_reducible refine gate_dst (N := 13) rfl ?_); refine Kd.R_lit k49 _ 49 ?hg (N := 13) ?hd (xs := ([] : List (S49))) (inner := []) (ok := fun _ => True) (okp := fun _ => True) ?hr ?hp (fun _ hk => hk) trivial (Below.refl _ _) (Nat.le_refl _) (by simp) ?_; (case hd => rfl); (case hg => rfl); (case hr => first | (go_simp; done) | (go_simp; rfl)); (case hp => exact (Reps.none _ _)); intro v326 w18 ho19 hb hg_ hnew_; clear hg_ hnew_; (first | rw [← Ny325.out] at ho19 | (simp only [Int.reduceToNat] at ho19; rw [← Ny325.out] at ho19)); have _ := ra (Kd.R_lower ho19 (below_size bq)); have _ := bb (bk BK319) hb; have _ := bs hb; clear BK319 HB; rename_i HO327 BK319 HB; clear hb ho19))
   go_ret
   exact ⟨_, re, rq HO327, bq⟩
 ·replace c4 := Bool.eq_false_iff.mpr c4
  subst c4
  have H1 : (some (([] : List (S49)))) = some r := by rw [if_neg (show ¬ (false = true) by decide)] at H; exact H
  clear H
  have H := H1
  clear H1
  obtain ⟨y328, hy_⟩ : ∃ y_ : List (S49), y_ = (([] : List (S49))) := ⟨_, rfl⟩
  replace H : (some y328) = some r := yh
  have Ny328 := ra hy_
  clear hy_
  obtain rfl := Option.some.inj H
  go_enter Try.func19, Try.ntmps19
  go_wp2_with (first | ((with_reducible refine gate_dst (N := 3) rfl ?_); refine be 3 #[.string a1_0, .slice A1_1 l1_1.length c1_1] 40 ?_; intro gb319 hg w20 hbox hb; have _ := bs hb; have _ := ra (hbox); have _ := bz (w0 := w) hg; have _ := bz (w0 := w) hg; clear HB; rename_i HB BK319 GW319 GE319; clear hb hbox hg) | ((with_reducible refine gate_callee (f := 27) rfl ?_); refine gl (some 6) Try.func27 #[.slice A0 l0.length c0] ?_; (with_reducible refine (spec_ProbeSkyOk.calls k _ _ l0 false _ ?side1 ?side2 A3.out).mono ?_); (case side1 => exact sc HR0); (case side2 => exact HC0.out); rintro e w21 ⟨rfl, hb⟩; refine ⟨_, rfl, ?_⟩; have _ := bb (bk BK319) hb; have _ := bs hb; clear BK319 HB; rename_i BK319 HB; (try clear hb); (try clear hb2); (try clear hk); (try clear hi)) | ((with_reducible refine gate_dst (N := 13) rfl ?_); refine Kd.R_lit k49 _ 49 ?hg (N := 13) ?hd (xs := ([] : List (S49))) (inner := []) (ok := fun _ => True) (okp := fun _ => True) ?hr ?hp (fun _ hk => hk) trivial (Below.refl _ _) (Nat.le_refl _) (by simp) ?_; (case hd => rfl); (case hg => rfl); (case hr => first | (go_simp; done) | (go_simp; rfl)); (case hp => exact (Reps.none _ _)); intro v329 w22 ho23 hb hg_ hnew_; clear hg_ hnew_; (first | rw [← Ny328.out] at ho23 | (simp only [Int.reduceToNat] at ho23; rw [← Ny328.out] at ho23)); have _ := ra (Kd.R_lower ho23 (below_size bq)); have _ := bb (bk BK319) hb; have _ := bs hb; clear BK319 HB; rename_i HO330 BK319 HB; clear hb ho23))
  go_ret
  exact ⟨_, re, rq HO330, bq⟩
end Go.Proofs.Ytdbomnhdpniigaa.PA
