/- Contracts of the functions impl_ProbeClose, impl_ProbeMeet. (Began as a print of the kit's tool.) -/
import Derived.Test.YtdbomnhdpniigaaPAd
import Derived.Test.YtdbomnhdpniigaaCx
import Derived.Test.YtdbomnhdpniigaaGBase
import Derived.Test.YtdbomnhdpniigaaGBase
namespace Go.Proofs.Ytdbomnhdpniigaa.PA
open Go.RowKit Go.Proofs.YtdbomnhdpniigaaW.PrintWords Go.Proofs.YtdbomnhdpniigaaW.PrintLast Go.Proofs.YtdbomnhdpniigaaW.PrintMore Go.Proofs.Ytdbomnhdpniigaa.Z
attribute [local go_sem] max2_int min2_int max_two min_two max_three min_three max_four min_four
set_option linter.unusedVariables false
set_option linter.unusedSimpArgs false
set_option maxHeartbeats 8000000 in
set_option maxRecDepth 100000 in
theorem impl_ProbeClose.calls (k : Nat) (a0_0 : Int) (a0_1 : Int) (a0_2 : Int) (a0_3 : Int) (a0_4 : Int) (a0_5 : Int) (a1_0 : Int) (a1_1 : Int) (a1_2 : Int) (a1_3 : Int) (a1_4 : Int) (a1_5 : Int) (r1 : Int) (r2 : Bool) (w : World) (h : impl_ProbeClose.f k a0_0 a0_1 a0_2 a0_3 a0_4 a0_5 a1_0 a1_1 a1_2 a1_3 a1_4 a1_5 = some (r1, r2)) :
  Calls Try.prog 76 #[.agg #[.int .i64 a0_0, .int .i64 a0_1, .int .i64 a0_2, .int .i64 a0_3, .int .i64 a0_4, .int .i64 a0_5], .agg #[.int .i64 a1_0, .int .i64 a1_1, .int .i64 a1_2, .int .i64 a1_3, .int .i64 a1_4, .int .i64 a1_5]] w fun e w' => e = .returned (.tuple #[.int .i64 r1, .bool r2]) ∧ Below w.heap.size w w' := by
 have hu95 := Try.underlying95
 have HB := ra (Below.refl w.heap.size w)
 have H : ((impl_ProbeBoxOk.f a0_0 a0_1 a0_2 a0_3 a0_4 a0_5).bind fun t190 => (if t190 = true then ((impl_ProbeBoxOk.f a1_0 a1_1 a1_2 a1_3 a1_4 a1_5).bind fun t191 => (if t191 = true then ((impl_in.f (wrap64 (a0_0 - a1_0)) (-1) 1).bind fun t192 => (if t192 = true then ((impl_in.f (wrap64 (a0_1 - a1_1)) (-1) 1).bind fun t193 => (if t193 = true then (impl_ProbeClose.j0 k (decide ((mx a0_2 a1_2) > (mn a0_3 a1_3))) a0_0 a0_1 a0_2 a0_3 a0_4 a0_5 a1_0 a1_1 a1_2 a1_3 a1_4 a1_5) else (impl_ProbeClose.j0 k true a0_0 a0_1 a0_2 a0_3 a0_4 a0_5 a1_0 a1_1 a1_2 a1_3 a1_4 a1_5))) else (impl_ProbeClose.j0 k true a0_0 a0_1 a0_2 a0_3 a0_4 a0_5 a1_0 a1_1 a1_2 a1_3 a1_4 a1_5))) else (impl_ProbeClose.j0 k true a0_0 a0_1 a0_2 a0_3 a0_4 a0_5 a1_0 a1_1 a1_2 a1_3 a1_4 a1_5))) else (impl_ProbeClose.j0 k true a0_0 a0_1 a0_2 a0_3 a0_4 a0_5 a1_0 a1_1 a1_2 a1_3 a1_4 a1_5))) = some (r1, r2) := h
 clear h
 have HC3 := Aside0.mk H
 clear H
 go_enter Try.func76, Try.ntmps76
 go_upto_region 1 with (first | ((with_reducible refine gate_dst (N := 2) rfl ?_); (try (refine gate_guard (by rfl) ?_; dsimp only)); refine be 2 #[.int .i64 a0_0, .int .i64 a0_1, .int .i64 a0_2, .int .i64 a0_3, .int .i64 a0_4, .int .i64 a0_5] 95 ?_; intro gb188 hg w4 hbox hb; have _ := bs hb; have _ := ra (hbox); have _ := bz (w0 := w) hg; have _ := bz (w0 := w) hg; clear HB; rename_i HB BK188 GW188 GE188; clear hb hbox hg) | ((with_reducible refine gate_dst (N := 3) rfl ?_); (try (refine gate_guard (by rfl) ?_; dsimp only)); refine be 3 #[.int .i64 a1_0, .int .i64 a1_1, .int .i64 a1_2, .int .i64 a1_3, .int .i64 a1_4, .int .i64 a1_5] 95 ?_; intro gb189 hg w5 hbox hb; have _ := bb (bk BK188) hb; have _ := bs hb; have _ := ra (hbox); have _ := bz (w0 := w) hg; have _ := bz (w0 := w) hg; have _ := bn hg (bk BK188); have _ := bm hg (bk BK188); clear BK188 HB; rename_i BK188 HB BK189 GW189 GE189 NB188_189 NB189_188; clear hb hbox hg))
 (try simp only [Act.put, List.setIfInBounds_toArray, List.set_cons_zero, List.set_cons_succ])
 go_cut [45] (fun v45 wc => ∃ (kq : Nat) (x45_2 : Bool), v45 = .bool x45_2 ∧ Aside0 (impl_ProbeClose.j0 kq x45_2 a0_0 a0_1 a0_2 a0_3 a0_4 a0_5 a1_0 a1_1 a1_2 a1_3 a1_4 a1_5 = some (r1, r2)) ∧ Aside0 (kq ≤ k) ∧ Aside0 (wc.heap[gb188]? = some (.cells #[.int .i64 a0_0, .int .i64 a0_1, .int .i64 a0_2, .int .i64 a0_3, .int .i64 a0_4, .int .i64 a0_5] 95 (0, 0))) ∧ Aside0 (wc.heap[gb189]? = some (.cells #[.int .i64 a1_0, .int .i64 a1_1, .int .i64 a1_2, .int .i64 a1_3, .int .i64 a1_4, .int .i64 a1_5] 95 (0, 0))) ∧ Aside0 (Below w.heap.size w wc))
 case first =>
  have H := HC3.out
  clear HC3
  obtain ⟨t190, A6, H⟩ := bo H
  by_cases c7 : t190 = true
  ·subst c7
   replace H := it H rfl
   obtain ⟨t191, A8, H⟩ := bo H
   by_cases c9 : t191 = true
   ·subst c9
    replace H := it H rfl
    obtain ⟨t192, A10, H⟩ := bo H
    by_cases c11 : t192 = true
    ·subst c11
     replace H := it H rfl
     obtain ⟨t193, A12, H⟩ := bo H
     by_cases c13 : t193 = true
     ·subst c13
      replace H := it H rfl
      obtain ⟨ji14, hji14⟩ : ∃ j_ : Int, (mx a0_2 a1_2) = j_ := ⟨_, rfl⟩
      replace H : (impl_ProbeClose.j0 k (decide ((ji14) > (mn a0_3 a1_3))) a0_0 a0_1 a0_2 a0_3 a0_4 a0_5 a1_0 a1_1 a1_2 a1_3 a1_4 a1_5) = some (r1, r2) := by first | (rw [hji14] at H; exact H) | (simp only [hji14] at H ⊢; exact H)
      (try rw [hji14] at A6)
      (try rw [hji14] at A8)
      (try rw [hji14] at A10)
      (try rw [hji14] at A12)
      have hji14_ : (if a0_2 < a1_2 then a1_2 else a0_2) = ji14 := hji14
      obtain ⟨ji15, hji15⟩ : ∃ j_ : Int, (mn a0_3 a1_3) = j_ := ⟨_, rfl⟩
      replace H : (impl_ProbeClose.j0 k (decide ((ji14) > (ji15))) a0_0 a0_1 a0_2 a0_3 a0_4 a0_5 a1_0 a1_1 a1_2 a1_3 a1_4 a1_5) = some (r1, r2) := by first | (rw [hji15] at H; exact H) | (simp only [hji15] at H ⊢; exact H)
      (try rw [hji15] at A6)
      (try rw [hji15] at A8)
      (try rw [hji15] at A10)
      (try rw [hji15] at A12)
      have hji15_ : (if a1_3 < a0_3 then a1_3 else a0_3) = ji15 := hji15
      have H' := Aside0.mk H
      clear H
      have hnb16 := NB188_189.out
      have hnc16 := NB189_188.out
      obtain ⟨hcz17_0, hcz17_1, hcz17_2, hcz17_3, hcz17_4, hcz17_5, hfz17_0, hfz17_1, hfz17_2, hfz17_3, hfz17_4, hfz17_5⟩ := zc6 BK188
      go_wp2_with (first | ((with_reducible refine gate_callee (f := 84) rfl ?_); refine gl (some 8) Try.func84 #[.agg #[.int .i64 a0_0, .int .i64 a0_1, .int .i64 a0_2, .int .i64 a0_3, .int .i64 a0_4, .int .i64 a0_5]] ?_; (with_reducible refine (impl_ProbeBoxOk.calls a0_0 a0_1 a0_2 a0_3 a0_4 a0_5 true _ A6.out).mono ?_); rintro e w18 ⟨rfl, hb⟩; refine ⟨_, rfl, ?_⟩; have _ := bb (bk BK188) hb; have _ := bb (bk BK189) hb; have _ := bs hb; clear BK188 BK189 HB; rename_i BK188 BK189 HB; (try clear hb); (try clear hb2); (try clear hk); (try clear hi); obtain ⟨hcz19_0, hcz19_1, hcz19_2, hcz19_3, hcz19_4, hcz19_5, hfz19_0, hfz19_1, hfz19_2, hfz19_3, hfz19_4, hfz19_5⟩ := zc6 BK189) | (go_at_call 84; (with_reducible refine (impl_ProbeBoxOk.calls a1_0 a1_1 a1_2 a1_3 a1_4 a1_5 true _ A8.out).mono ?_); rintro e w20 ⟨rfl, hb⟩; have _ := bb (bk BK188) hb; have _ := bb (bk BK189) hb; have _ := bs hb; clear BK188 BK189 HB; rename_i BK188 BK189 HB; (try clear hb); (try clear hb2); (try clear hk); (try clear hi); obtain ⟨hcz21_0, hcz21_1, hcz21_2, hcz21_3, hcz21_4, hcz21_5, hfz21_0, hfz21_1, hfz21_2, hfz21_3, hfz21_4, hfz21_5⟩ := zc6 BK188; obtain ⟨hcz22_0, hcz22_1, hcz22_2, hcz22_3, hcz22_4, hcz22_5, hfz22_0, hfz22_1, hfz22_2, hfz22_3, hfz22_4, hfz22_5⟩ := zc6 BK189) | (go_at_call 83; (with_reducible refine (impl_in.calls (wrap64 (a0_0 - a1_0)) (-1) 1 true _ A10.out).mono ?_); rintro e w' ⟨rfl, ⟨nd, rfl⟩⟩) | (go_at_call 83; (with_reducible refine (impl_in.calls (wrap64 (a0_1 - a1_1)) (-1) 1 true _ A12.out).mono ?_); rintro e w' ⟨rfl, ⟨nd, rfl⟩⟩))
      go_meet
      case rel => exact ⟨_, (decide ((ji14) > (ji15))), (by first | rfl | (simp; done) | (simp only [← hji14, ← hji15] <;> (first | rfl | simp)) | (simp [*]; done)), H', ⟨by first | omega | exact Nat.le_refl _⟩, ⟨bk BK188⟩, ⟨bk BK189⟩, ⟨bq⟩⟩
     ·replace c13 := Bool.eq_false_iff.mpr c13
      subst c13
      have H1 : (impl_ProbeClose.j0 k true a0_0 a0_1 a0_2 a0_3 a0_4 a0_5 a1_0 a1_1 a1_2 a1_3 a1_4 a1_5) = some (r1, r2) := by rw [if_neg (show ¬ (false = true) by decide)] at H; exact H
      clear H
      have H := H1
      clear H1
      have H' := Aside0.mk H
      clear H
      have hnb23 := NB188_189.out
      have hnc23 := NB189_188.out
      obtain ⟨hcz24_0, hcz24_1, hcz24_2, hcz24_3, hcz24_4, hcz24_5, hfz24_0, hfz24_1, hfz24_2, hfz24_3, hfz24_4, hfz24_5⟩ := zc6 BK188
      go_wp2_with (first | ((with_reducible refine gate_callee (f := 84) rfl ?_); refine gl (some 8) Try.func84 #[.agg #[.int .i64 a0_0, .int .i64 a0_1, .int .i64 a0_2, .int .i64 a0_3, .int .i64 a0_4, .int .i64 a0_5]] ?_; (with_reducible refine (impl_ProbeBoxOk.calls a0_0 a0_1 a0_2 a0_3 a0_4 a0_5 true _ A6.out).mono ?_); rintro e w25 ⟨rfl, hb⟩; refine ⟨_, rfl, ?_⟩; have _ := bb (bk BK188) hb; have _ := bb (bk BK189) hb; have _ := bs hb; clear BK188 BK189 HB; rename_i BK188 BK189 HB; (try clear hb); (try clear hb2); (try clear hk); (try clear hi); obtain ⟨hcz26_0, hcz26_1, hcz26_2, hcz26_3, hcz26_4, hcz26_5, hfz26_0, hfz26_1, hfz26_2, hfz26_3, hfz26_4, hfz26_5⟩ := zc6 BK189) | (go_at_call 84; (with_reducible refine (impl_ProbeBoxOk.calls a1_0 a1_1 a1_2 a1_3 a1_4 a1_5 true _ A8.out).mono ?_); rintro e w27 ⟨rfl, hb⟩; have _ := bb (bk BK188) hb; have _ := bb (bk BK189) hb; have _ := bs hb; clear BK188 BK189 HB; rename_i BK188 BK189 HB; (try clear hb); (try clear hb2); (try clear hk); (try clear hi); obtain ⟨hcz28_0, hcz28_1, hcz28_2, hcz28_3, hcz28_4, hcz28_5, hfz28_0, hfz28_1, hfz28_2, hfz28_3, hfz28_4, hfz28_5⟩ := zc6 BK188; obtain ⟨hcz29_0, hcz29_1, hcz29_2, hcz29_3, hcz29_4, hcz29_5, hfz29_0, hfz29_1, hfz29_2, hfz29_3, hfz29_4, hfz29_5⟩ := zc6 BK189) | (go_at_call 83; (with_reducible refine (impl_in.calls (wrap64 (a0_0 - a1_0)) (-1) 1 true _ A10.out).mono ?_); rintro e w' ⟨rfl, ⟨nd, rfl⟩⟩) | (go_at_call 83; (with_reducible refine (impl_in.calls (wrap64 (a0_1 - a1_1)) (-1) 1 false _ A12.out).mono ?_); rintro e w' ⟨rfl, ⟨nd, rfl⟩⟩))
      go_meet
      case rel => exact ⟨_, (true), rs, H', ⟨by first | omega | exact Nat.le_refl _⟩, ⟨bk BK188⟩, ⟨bk BK189⟩, ⟨bq⟩⟩
    ·replace c11 := Bool.eq_false_iff.mpr c11
     subst c11
     have H1 : (impl_ProbeClose.j0 k true a0_0 a0_1 a0_2 a0_3 a0_4 a0_5 a1_0 a1_1 a1_2 a1_3 a1_4 a1_5) = some (r1, r2) := by rw [if_neg (show ¬ (false = true) by decide)] at H; exact H
     clear H
     have H := H1
     clear H1
     have H' := Aside0.mk H
     clear H
     have hnb30 := NB188_189.out
     have hnc30 := NB189_188.out
     obtain ⟨hcz31_0, hcz31_1, hcz31_2, hcz31_3, hcz31_4, hcz31_5, hfz31_0, hfz31_1, hfz31_2, hfz31_3, hfz31_4, hfz31_5⟩ := zc6 BK188
     go_wp2_with (first | ((with_reducible refine gate_callee (f := 84) rfl ?_); refine gl (some 8) Try.func84 #[.agg #[.int .i64 a0_0, .int .i64 a0_1, .int .i64 a0_2, .int .i64 a0_3, .int .i64 a0_4, .int .i64 a0_5]] ?_; (with_reducible refine (impl_ProbeBoxOk.calls a0_0 a0_1 a0_2 a0_3 a0_4 a0_5 true _ A6.out).mono ?_); rintro e w32 ⟨rfl, hb⟩; refine ⟨_, rfl, ?_⟩; have _ := bb (bk BK188) hb; have _ := bb (bk BK189) hb; have _ := bs hb; clear BK188 BK189 HB; rename_i BK188 BK189 HB; (try clear hb); (try clear hb2); (try clear hk); (try clear hi); obtain ⟨hcz33_0, hcz33_1, hcz33_2, hcz33_3, hcz33_4, hcz33_5, hfz33_0, hfz33_1, hfz33_2, hfz33_3, hfz33_4, hfz33_5⟩ := zc6 BK189) | (go_at_call 84; (with_reducible refine (impl_ProbeBoxOk.calls a1_0 a1_1 a1_2 a1_3 a1_4 a1_5 true _ A8.out).mono ?_); rintro e w34 ⟨rfl, hb⟩; have _ := bb (bk BK188) hb; have _ := bb (bk BK189) hb; have _ := bs hb; clear BK188 BK189 HB; rename_i BK188 BK189 HB; (try clear hb); (try clear hb2); (try clear hk); (try clear hi); obtain ⟨hcz35_0, hcz35_1, hcz35_2, hcz35_3, hcz35_4, hcz35_5, hfz35_0, hfz35_1, hfz35_2, hfz35_3, hfz35_4, hfz35_5⟩ := zc6 BK188; obtain ⟨hcz36_0, hcz36_1, hcz36_2, hcz36_3, hcz36_4, hcz36_5, hfz36_0, hfz36_1, hfz36_2, hfz36_3, hfz36_4, hfz36_5⟩ := zc6 BK189) | (go_at_call 83; (with_reducible refine (impl_in.calls (wrap64 (a0_0 - a1_0)) (-1) 1 false _ A10.out).mono ?_); rintro e w' ⟨rfl, ⟨nd, rfl⟩⟩))
     go_meet
     case rel => exact ⟨_, (true), rs, H', ⟨by first | omega | exact Nat.le_refl _⟩, ⟨bk BK188⟩, ⟨bk BK189⟩, ⟨bq⟩⟩
   ·replace c9 := Bool.eq_false_iff.mpr c9
    subst c9
    have H1 : (impl_ProbeClose.j0 k true a0_0 a0_1 a0_2 a0_3 a0_4 a0_5 a1_0 a1_1 a1_2 a1_3 a1_4 a1_5) = some (r1, r2) := by rw [if_neg (show ¬ (false = true) by decide)] at H; exact H
    clear H
    have H := H1
    clear H1
    have H' := Aside0.mk H
    clear H
    have hnb37 := NB188_189.out
    have hnc37 := NB189_188.out
    obtain ⟨hcz38_0, hcz38_1, hcz38_2, hcz38_3, hcz38_4, hcz38_5, hfz38_0, hfz38_1, hfz38_2, hfz38_3, hfz38_4, hfz38_5⟩ := zc6 BK188
    go_wp2_with (first | ((with_reducible refine gate_callee (f := 84) rfl ?_); refine gl (some 8) Try.func84 #[.agg #[.int .i64 a0_0, .int .i64 a0_1, .int .i64 a0_2, .int .i64 a0_3, .int .i64 a0_4, .int .i64 a0_5]] ?_; (with_reducible refine (impl_ProbeBoxOk.calls a0_0 a0_1 a0_2 a0_3 a0_4 a0_5 true _ A6.out).mono ?_); rintro e w39 ⟨rfl, hb⟩; refine ⟨_, rfl, ?_⟩; have _ := bb (bk BK188) hb; have _ := bb (bk BK189) hb; have _ := bs hb; clear BK188 BK189 HB; rename_i BK188 BK189 HB; (try clear hb); (try clear hb2); (try clear hk); (try clear hi); obtain ⟨hcz40_0, hcz40_1, hcz40_2, hcz40_3, hcz40_4, hcz40_5, hfz40_0, hfz40_1, hfz40_2, hfz40_3, hfz40_4, hfz40_5⟩ := zc6 BK189) | (go_at_call 84; (with_reducible refine (impl_ProbeBoxOk.calls a1_0 a1_1 a1_2 a1_3 a1_4 a1_5 false _ A8.out).mono ?_); rintro e w41 ⟨rfl, hb⟩; have _ := bb (bk BK188) hb; have _ := bb (bk BK189) hb; have _ := bs hb; clear BK188 BK189 HB; rename_i BK188 BK189 HB; (try clear hb); (try clear hb2); (try clear hk); (try clear hi)))
    go_meet
    case rel => exact ⟨_, (true), rs, H', ⟨by first | omega | exact Nat.le_refl _⟩, ⟨bk BK188⟩, ⟨bk BK189⟩, ⟨bq⟩⟩
  ·replace c7 := Bool.eq_false_iff.mpr c7
   subst c7
   have H1 : (impl_ProbeClose.j0 k true a0_0 a0_1 a0_2 a0_3 a0_4 a0_5 a1_0 a1_1 a1_2 a1_3 a1_4 a1_5) = some (r1, r2) := by rw [if_neg (show ¬ (false = true) by decide)] at H; exact H
   clear H
   have H := H1
   clear H1
   have H' := Aside0.mk H
   clear H
   have hnb42 := NB188_189.out
   have hnc42 := NB189_188.out
   obtain ⟨hcz43_0, hcz43_1, hcz43_2, hcz43_3, hcz43_4, hcz43_5, hfz43_0, hfz43_1, hfz43_2, hfz43_3, hfz43_4, hfz43_5⟩ := zc6 BK188
   go_wp2_with (first | ((with_reducible refine gate_callee (f := 84) rfl ?_); refine gl (some 8) Try.func84 #[.agg #[.int .i64 a0_0, .int .i64 a0_1, .int .i64 a0_2, .int .i64 a0_3, .int .i64 a0_4, .int .i64 a0_5]] ?_; (with_reducible refine (impl_ProbeBoxOk.calls a0_0 a0_1 a0_2 a0_3 a0_4 a0_5 false _ A6.out).mono ?_); rintro e w44 ⟨rfl, hb⟩; refine ⟨_, rfl, ?_⟩; have _ := bb (bk BK188) hb; have _ := bb (bk BK189) hb; have _ := bs hb; clear BK188 BK189 HB; rename_i BK188 BK189 HB; (try clear hb); (try clear hb2); (try clear hk); (try clear hi)))
   go_meet
   case rel => exact ⟨_, (true), rs, H', ⟨by first | omega | exact Nat.le_refl _⟩, ⟨bk BK188⟩, ⟨bk BK189⟩, ⟨bq⟩⟩
 case rest =>
  clear HC3
  try clear c7
  try clear c9
  try clear c11
  try clear c13
  try clear hcz17_0
  try clear hcz17_1
  try clear hcz17_2
  try clear hcz17_3
  try clear hcz17_4
  try clear hcz17_5
  try clear hcz19_0
  try clear hcz19_1
  try clear hcz19_2
  try clear hcz19_3
  try clear hcz19_4
  try clear hcz19_5
  try clear hcz21_0
  try clear hcz21_1
  try clear hcz21_2
  try clear hcz21_3
  try clear hcz21_4
  try clear hcz21_5
  try clear hcz22_0
  try clear hcz22_1
  try clear hcz22_2
  try clear hcz22_3
  try clear hcz22_4
  try clear hcz22_5
  try clear hcz24_0
  try clear hcz24_1
  try clear hcz24_2
  try clear hcz24_3
  try clear hcz24_4
  try clear hcz24_5
  try clear hcz26_0
  try clear hcz26_1
  try clear hcz26_2
  try clear hcz26_3
  try clear hcz26_4
  try clear hcz26_5
  try clear hcz28_0
  try clear hcz28_1
  try clear hcz28_2
  try clear hcz28_3
  try clear hcz28_4
  try clear hcz28_5
  try clear hcz29_0
  try clear hcz29_1
  try clear hcz29_2
  try clear hcz29_3
  try clear hcz29_4
  try clear hcz29_5
  try clear hcz31_0
  try clear hcz31_1
  try clear hcz31_2
  try clear hcz31_3
  try clear hcz31_4
  try clear hcz31_5
  try clear hcz33_0
  try clear hcz33_1
  try clear hcz33_2
  try clear hcz33_3
  try clear hcz33_4
  try clear hcz33_5
  try clear hcz35_0
  try clear hcz35_1
  try clear hcz35_2
  try clear hcz35_3
  try clear hcz35_4
  try clear hcz35_5
  try clear hcz36_0
  try clear hcz36_1
  try clear hcz36_2
  try clear hcz36_3
  try clear hcz36_4
  try clear hcz36_5
  try clear hcz38_0
  try clear hcz38_1
  try clear hcz38_2
  try clear hcz38_3
  try clear hcz38_4
  try clear hcz38_5
  try clear hcz40_0
  try clear hcz40_1
  try clear hcz40_2
  try clear hcz40_3
  try clear hcz40_4
  try clear hcz40_5
  try clear hcz43_0
  try clear hcz43_1
  try clear hcz43_2
  try clear hcz43_3
  try clear hcz43_4
  try clear hcz43_5
  try clear hfz17_0
  try clear hfz17_1
  try clear hfz17_2
  try clear hfz17_3
  try clear hfz17_4
  try clear hfz17_5
  try clear hfz19_0
  try clear hfz19_1
  try clear hfz19_2
  try clear hfz19_3
  try clear hfz19_4
  try clear hfz19_5
  try clear hfz21_0
  try clear hfz21_1
  try clear hfz21_2
  try clear hfz21_3
  try clear hfz21_4
  try clear hfz21_5
  try clear hfz22_0
  try clear hfz22_1
  try clear hfz22_2
  try clear hfz22_3
  try clear hfz22_4
  try clear hfz22_5
  try clear hfz24_0
  try clear hfz24_1
  try clear hfz24_2
  try clear hfz24_3
  try clear hfz24_4
  try clear hfz24_5
  try clear hfz26_0
  try clear hfz26_1
  try clear hfz26_2
  try clear hfz26_3
  try clear hfz26_4
  try clear hfz26_5
  try clear hfz28_0
  try clear hfz28_1
  try clear hfz28_2
  try clear hfz28_3
  try clear hfz28_4
  try clear hfz28_5
  try clear hfz29_0
  try clear hfz29_1
  try clear hfz29_2
  try clear hfz29_3
  try clear hfz29_4
  try clear hfz29_5
  try clear hfz31_0
  try clear hfz31_1
  try clear hfz31_2
  try clear hfz31_3
  try clear hfz31_4
  try clear hfz31_5
  try clear hfz33_0
  try clear hfz33_1
  try clear hfz33_2
  try clear hfz33_3
  try clear hfz33_4
  try clear hfz33_5
  try clear hfz35_0
  try clear hfz35_1
  try clear hfz35_2
  try clear hfz35_3
  try clear hfz35_4
  try clear hfz35_5
  try clear hfz36_0
  try clear hfz36_1
  try clear hfz36_2
  try clear hfz36_3
  try clear hfz36_4
  try clear hfz36_5
  try clear hfz38_0
  try clear hfz38_1
  try clear hfz38_2
  try clear hfz38_3
  try clear hfz38_4
  try clear hfz38_5
  try clear hfz40_0
  try clear hfz40_1
  try clear hfz40_2
  try clear hfz40_3
  try clear hfz40_4
  try clear hfz40_5
  try clear hfz43_0
  try clear hfz43_1
  try clear hfz43_2
  try clear hfz43_3
  try clear hfz43_4
  try clear hfz43_5
  obtain ⟨kq, x45_2, rfl, HA, HJ2, BK188, BK189, HB⟩ := hcut
  cases kq with
  | zero => exact absurd HA.out (by simp [impl_ProbeClose.j0])
  | succ kj2 =>
   have H := HA.out
   clear HA
   simp only [impl_ProbeClose.j0] at H
   by_cases c45 : x45_2 = true
   ·subst c45
    replace H := it H rfl
    simp only [Option.some.injEq, Prod.mk.injEq] at H
    obtain ⟨rfl, rfl⟩ := H
    go_wp2
    go_ret2
    exact ⟨re, bq⟩
   ·replace c45 := Bool.eq_false_iff.mpr c45
    subst c45
    have H1 : (if (mx a0_4 a1_4) > (mn a0_5 a1_5) then (some (0, false)) else (some (mx a0_4 a1_4, true))) = some (r1, r2) := by rw [if_neg (show ¬ (false = true) by decide)] at H; exact H
    clear H
    have H := H1
    clear H1
    obtain ⟨ji46, hji46⟩ : ∃ j_ : Int, (mx a0_4 a1_4) = j_ := ⟨_, rfl⟩
    replace H : (if (ji46) > (mn a0_5 a1_5) then (some (0, false)) else (some (ji46, true))) = some (r1, r2) := by first | (rw [hji46] at H; exact H) | (simp only [hji46] at H ⊢; exact H)
    have hji46_ : (if a0_4 < a1_4 then a1_4 else a0_4) = ji46 := hji46
    obtain ⟨ji47, hji47⟩ : ∃ j_ : Int, (mn a0_5 a1_5) = j_ := ⟨_, rfl⟩
    replace H : (if (ji46) > (ji47) then (some (0, false)) else (some (ji46, true))) = some (r1, r2) := by first | (rw [hji47] at H; exact H) | (simp only [hji47] at H ⊢; exact H)
    have hji47_ : (if a1_5 < a0_5 then a1_5 else a0_5) = ji47 := hji47
    by_cases c48 : (ji46) > (ji47)
    ·rw [if_pos c48] at H
     have c48b0 : decide ((ji47) < (ji46)) = true := decide_eq_true c48
     clear c48
     simp only [Option.some.injEq, Prod.mk.injEq] at H
     obtain ⟨rfl, rfl⟩ := H
     have hnb49 := NB188_189.out
     have hnc49 := NB189_188.out
     obtain ⟨hcz50_0, hcz50_1, hcz50_2, hcz50_3, hcz50_4, hcz50_5, hfz50_0, hfz50_1, hfz50_2, hfz50_3, hfz50_4, hfz50_5⟩ := zc6 BK188
     obtain ⟨hcz51_0, hcz51_1, hcz51_2, hcz51_3, hcz51_4, hcz51_5, hfz51_0, hfz51_1, hfz51_2, hfz51_3, hfz51_4, hfz51_5⟩ := zc6 BK189
     go_wp2
     go_ret2
     exact ⟨by first | rfl | (simp [errW_none, errW_some] <;> rfl) | (simp only [← hji46, ← hji47]; first | rfl | (simp [errW_none, errW_some] <;> rfl)) | (simp [*, errW_none, errW_some] <;> rfl), bq⟩
    ·rw [if_neg c48] at H
     have c48b0 : decide ((ji47) < (ji46)) = false := decide_eq_false c48
     clear c48
     simp only [Option.some.injEq, Prod.mk.injEq] at H
     obtain ⟨rfl, rfl⟩ := H
     have hnb52 := NB188_189.out
     have hnc52 := NB189_188.out
     obtain ⟨hcz53_0, hcz53_1, hcz53_2, hcz53_3, hcz53_4, hcz53_5, hfz53_0, hfz53_1, hfz53_2, hfz53_3, hfz53_4, hfz53_5⟩ := zc6 BK188
     obtain ⟨hcz54_0, hcz54_1, hcz54_2, hcz54_3, hcz54_4, hcz54_5, hfz54_0, hfz54_1, hfz54_2, hfz54_3, hfz54_4, hfz54_5⟩ := zc6 BK189
     go_wp2
     go_ret2
     exact ⟨by first | rfl | (simp [errW_none, errW_some] <;> rfl) | (simp only [← hji46, ← hji47]; first | rfl | (simp [errW_none, errW_some] <;> rfl)) | (simp [*, errW_none, errW_some] <;> rfl), bq⟩
set_option maxHeartbeats 8000000 in
set_option maxRecDepth 100000 in
theorem impl_ProbeMeet.calls (k : Nat) (a0_0 : ByteArray) (A0_1 : Option Addr) (c0_1 : Nat) (l0_1 : List (S95)) (a1_0 : ByteArray) (A1_1 : Option Addr) (c1_1 : Nat) (l1_1 : List (S95)) (r1 : ByteArray) (r2 : ByteArray) (r3 : Int) (r4 : Int) (r5 : Int) (r6 : Bool) (w : World) (hr0_1 : Kd.C k95 w A0_1 l0_1.length l0_1) (hc0_1 : l0_1.length ≤ c0_1) (hr1_1 : Kd.C k95 w A1_1 l1_1.length l1_1) (hc1_1 : l1_1.length ≤ c1_1) (h : impl_ProbeMeet.f k a0_0 l0_1 a1_0 l1_1 = some (r1, r2, r3, r4, r5, r6)) :
  Calls Try.prog 46 #[.agg #[.string a0_0, .slice A0_1 l0_1.length c0_1], .agg #[.string a1_0, .slice A1_1 l1_1.length c1_1]] w fun e w' => e = .returned (.tuple #[.agg #[.string r1, .string r2, .int .i64 r3, .int .i64 r4, .int .i64 r5], .bool r6]) ∧ Below w.heap.size w w' := by
 have hu40 := Try.underlying40
 have hu49 := Try.underlying49
 have hu95 := Try.underlying95
 have HR0_1 := Aside0.mk hr0_1
 have HC0_1 := Aside0.mk hc0_1
 clear hr0_1 hc0_1
 have HR1_1 := Aside0.mk hr1_1
 have HC1_1 := Aside0.mk hc1_1
 clear hr1_1 hc1_1
 have HB := ra (Below.refl w.heap.size w)
 have H : ((impl_ProbeTubeOk.f k a0_0 l0_1).bind fun t197 => (if t197 = true then ((impl_ProbeTubeOk.f k a1_0 l1_1).bind fun t198 => (impl_ProbeMeet.j0 k (!t198) a0_0 l0_1 a1_0 l1_1)) else (impl_ProbeMeet.j0 k true a0_0 l0_1 a1_0 l1_1))) = some (r1, r2, r3, r4, r5, r6) := h
 clear h
 have HC3 := Aside0.mk H
 clear H
 go_enter Try.func46, Try.ntmps46
 go_upto_region 1 with (first | ((with_reducible refine gate_dst (N := 2) rfl ?_); refine be 2 #[.string a0_0, .slice A0_1 l0_1.length c0_1] 40 ?_; intro gb194 hg w4 hbox hb; have _ := bs hb; have _ := ra (hbox); have _ := bz (w0 := w) hg; have _ := bz (w0 := w) hg; clear HB; rename_i HB BK194 GW194 GE194; clear hb hbox hg) | ((with_reducible refine gate_dst (N := 3) rfl ?_); refine be 3 #[.string a1_0, .slice A1_1 l1_1.length c1_1] 40 ?_; intro gb195 hg w5 hbox hb; have _ := bb (bk BK194) hb; have _ := bs hb; have _ := ra (hbox); have _ := bz (w0 := w) hg; have _ := bz (w0 := w) hg; have _ := bn hg (bk BK194); have _ := bm hg (bk BK194); clear BK194 HB; rename_i BK194 HB BK195 GW195 GE195 NB194_195 NB195_194; clear hb hbox hg) | ((with_reducible refine gate_dst (N := 4) rfl ?_); refine be 4 #[.string (⟨#[]⟩ : ByteArray), .string (⟨#[]⟩ : ByteArray), .int .i64 0, .int .i64 0, .int .i64 0] 49 ?_; intro gb196 hg w6 hbox hb; have _ := bb (bk BK194) hb; have _ := bb (bk BK195) hb; have _ := bs hb; have _ := ra (hbox); have _ := bz (w0 := w) hg; have _ := bz (w0 := w) hg; have _ := bn hg (bk BK194); have _ := bm hg (bk BK194); have _ := bn hg (bk BK195); have _ := bm hg (bk BK195); clear BK194 BK195 HB; rename_i BK194 BK195 HB BK196 GW196 GE196 NB194_196 NB196_194 NB195_196 NB196_195; clear hb hbox hg))
 (try simp only [Act.put, List.setIfInBounds_toArray, List.set_cons_zero, List.set_cons_succ])
 go_cut [21] (fun v21 wc => ∃ (kq : Nat) (x21_2 : Bool), v21 = .bool x21_2 ∧ Aside0 (impl_ProbeMeet.j0 kq x21_2 a0_0 l0_1 a1_0 l1_1 = some (r1, r2, r3, r4, r5, r6)) ∧ Aside0 (kq ≤ k) ∧ Aside0 (wc.heap[gb194]? = some (.cells #[.string a0_0, (.slice A0_1 l0_1.length c0_1)] 40 (0, 0))) ∧ Aside0 (wc.heap[gb195]? = some (.cells #[.string a1_0, (.slice A1_1 l1_1.length c1_1)] 40 (0, 0))) ∧ Aside0 (wc.heap[gb196]? = some (.cells #[.string (⟨#[]⟩ : ByteArray), .string (⟨#[]⟩ : ByteArray), .int .i64 0, .int .i64 0, .int .i64 0] 49 (0, 0))) ∧ Aside0 (Below w.heap.size w wc))
 case first =>
  have H := HC3.out
  clear HC3
  obtain ⟨t197, A7, H⟩ := bo H
  by_cases c8 : t197 = true
  ·subst c8
   replace H := it H rfl
   obtain ⟨t198, A9, H⟩ := bo H
   have H' := Aside0.mk H
   clear H
   have hnb10 := NB194_195.out
   have hnc10 := NB195_194.out
   have hnb11 := NB194_196.out
   have hnc11 := NB196_194.out
   obtain ⟨hcz12_0, hcz12_1, hfz12_0, hfz12_1⟩ := zc2 BK194
   go_wp2_with (first | ((with_reducible refine gate_callee (f := 54) rfl ?_); refine gl (some 15) Try.func54 #[.agg #[.string a0_0, .slice A0_1 l0_1.length c0_1]] ?_; (with_reducible refine (impl_ProbeTubeOk.calls k a0_0 _ _ l0_1 true _ ?side1 ?side2 A7.out).mono ?_); (case side1 => exact sc HR0_1); (case side2 => exact HC0_1.out); rintro e w13 ⟨rfl, hb⟩; refine ⟨_, rfl, ?_⟩; have _ := bb (bk BK194) hb; have _ := bb (bk BK195) hb; have _ := bb (bk BK196) hb; have _ := bs hb; clear BK194 BK195 BK196 HB; rename_i BK194 BK195 BK196 HB; (try clear hb); (try clear hb2); (try clear hk); (try clear hi); have hnb14 := NB195_196.out; have hnc14 := NB196_195.out; obtain ⟨hcz15_0, hcz15_1, hfz15_0, hfz15_1⟩ := zc2 BK195) | (go_at_call 54; (with_reducible refine (impl_ProbeTubeOk.calls k a1_0 _ _ l1_1 t198 _ ?side1 ?side2 A9.out).mono ?_); (case side1 => exact sc HR1_1); (case side2 => exact HC1_1.out); rintro e w16 ⟨rfl, hb⟩; have _ := bb (bk BK194) hb; have _ := bb (bk BK195) hb; have _ := bb (bk BK196) hb; have _ := bs hb; clear BK194 BK195 BK196 HB; rename_i BK194 BK195 BK196 HB; (try clear hb); (try clear hb2); (try clear hk); (try clear hi)))
   go_meet
   case rel => exact ⟨_, (!t198), rs, H', ⟨by first | omega | exact Nat.le_refl _⟩, ⟨bk BK194⟩, ⟨bk BK195⟩, ⟨bk BK196⟩, ⟨bq⟩⟩
  ·replace c8 := Bool.eq_false_iff.mpr c8
   subst c8
   have H1 : (impl_ProbeMeet.j0 k true a0_0 l0_1 a1_0 l1_1) = some (r1, r2, r3, r4, r5, r6) := by rw [if_neg (show ¬ (false = true) by decide)] at H; exact H
   clear H
   have H := H1
   clear H1
   have H' := Aside0.mk H
   clear H
   have hnb17 := NB194_195.out
   have hnc17 := NB195_194.out
   have hnb18 := NB194_196.out
   have hnc18 := NB196_194.out
   obtain ⟨hcz19_0, hcz19_1, hfz19_0, hfz19_1⟩ := zc2 BK194
   go_wp2_with (first | ((with_reducible refine gate_callee (f := 54) rfl ?_); refine gl (some 15) Try.func54 #[.agg #[.string a0_0, .slice A0_1 l0_1.length c0_1]] ?_; (with_reducible refine (impl_ProbeTubeOk.calls k a0_0 _ _ l0_1 false _ ?side1 ?side2 A7.out).mono ?_); (case side1 => exact sc HR0_1); (case side2 => exact HC0_1.out); rintro e w20 ⟨rfl, hb⟩; refine ⟨_, rfl, ?_⟩; have _ := bb (bk BK194) hb; have _ := bb (bk BK195) hb; have _ := bb (bk BK196) hb; have _ := bs hb; clear BK194 BK195 BK196 HB; rename_i BK194 BK195 BK196 HB; (try clear hb); (try clear hb2); (try clear hk); (try clear hi)))
   go_meet
   case rel => exact ⟨_, (true), rs, H', ⟨by first | omega | exact Nat.le_refl _⟩, ⟨bk BK194⟩, ⟨bk BK195⟩, ⟨bk BK196⟩, ⟨bq⟩⟩
 case rest =>
  clear HC3
  try clear c8
  try clear hcz12_0
  try clear hcz12_1
  try clear hcz15_0
  try clear hcz15_1
  try clear hcz19_0
  try clear hcz19_1
  try clear hfz12_0
  try clear hfz12_1
  try clear hfz15_0
  try clear hfz15_1
  try clear hfz19_0
  try clear hfz19_1
  obtain ⟨kq, x21_2, rfl, HA, HJ2, BK194, BK195, BK196, HB⟩ := hcut
  cases kq with
  | zero => exact absurd HA.out (by simp [impl_ProbeMeet.j0])
  | succ kj2 =>
   have H := HA.out
   clear HA
   simp only [impl_ProbeMeet.j0] at H
   by_cases c21 : x21_2 = true
   ·subst c21
    replace H := it H rfl
    simp only [Option.some.injEq, Prod.mk.injEq] at H
    obtain ⟨rfl, rfl, rfl, rfl, rfl, rfl⟩ := H
    have hnb22 := NB196_194.out
    have hnc22 := NB194_196.out
    have hnb23 := NB196_195.out
    have hnc23 := NB195_196.out
    obtain ⟨hcz24_0, hcz24_1, hcz24_2, hcz24_3, hcz24_4, hfz24_0, hfz24_1, hfz24_2, hfz24_3, hfz24_4⟩ := zc5 BK196
    go_wp2
    refine bodyPost_ret (results_ct rfl _ _ gb196 49 #[.string (⟨#[]⟩ : ByteArray), .string (⟨#[]⟩ : ByteArray), .int .i64 0, .int .i64 0, .int .i64 0] (0, 0) _ rfl (bp BK196) Try.underlying49 rfl (by kernel_rfl)) rfl ?_
    exact ⟨re, bq⟩
   ·replace c21 := Bool.eq_false_iff.mpr c21
    subst c21
    have H1 : (impl_ProbeMeet.l0 kj2 false l0_1 (l0_1.length : Int) 0 a0_0 l0_1 a1_0 l1_1 (⟨#[]⟩ : ByteArray) (⟨#[]⟩ : ByteArray) 0 0 0) = some (r1, r2, r3, r4, r5, r6) := by rw [if_neg (show ¬ (false = true) by decide)] at H; exact H
    clear H
    have H := H1
    clear H1
    have H' := Aside0.mk H
    clear H
    go_wp2_with (first | ((with_reducible refine gate_dst (N := 6) rfl ?_); refine be 6 #[.string (⟨#[]⟩ : ByteArray), .string (⟨#[]⟩ : ByteArray), .int .i64 0, .int .i64 0, .int .i64 0] 49 ?_; intro gb199 hg w25 hbox hb; have _ := bb (bk BK194) hb; have _ := bb (bk BK195) hb; have _ := bb (bk BK196) hb; have _ := bs hb; have _ := ra (hbox); have _ := bz (w0 := w) hg; have _ := bz (w0 := w) hg; have _ := bn hg (bk BK194); have _ := bm hg (bk BK194); have _ := bn hg (bk BK195); have _ := bm hg (bk BK195); have _ := bn hg (bk BK196); have _ := bm hg (bk BK196); clear BK194 BK195 BK196 HB; rename_i BK194 BK195 BK196 HB BK199 GW199 GE199 NB194_199 NB199_194 NB195_199 NB199_195 NB196_199 NB199_196; clear hb hbox hg; have hnb26 := NB199_194.out; have hnc26 := NB194_199.out; have hnb27 := NB199_195.out; have hnc27 := NB195_199.out; have hnb28 := NB199_196.out; have hnc28 := NB196_199.out; obtain ⟨hcz29_0, hcz29_1, hcz29_2, hcz29_3, hcz29_4, hfz29_0, hfz29_1, hfz29_2, hfz29_3, hfz29_4⟩ := zc5 BK199; have hnb30 := NB194_195.out; have hnc30 := NB195_194.out; have hnb31 := NB194_196.out; have hnc31 := NB196_194.out; obtain ⟨hcz32_0, hcz32_1, hfz32_0, hfz32_1⟩ := zc2 BK194))
    go_loopg [7, 27] kj2 (fun kq v7 v27 w' => ∃ (x7_2 : Bool) (x27_2 : Int) (x200000_2 : ByteArray) (x200001_2 : ByteArray) (x200002_2 : Int) (x200003_2 : Int) (x200004_2 : Int), v7 = .bool x7_2 ∧ v27 = .int .i64 x27_2 ∧ Aside0 (impl_ProbeMeet.l0 kq x7_2 l0_1 (l0_1.length : Int) x27_2 a0_0 l0_1 a1_0 l1_1 x200000_2 x200001_2 x200002_2 x200003_2 x200004_2 = some (r1, r2, r3, r4, r5, r6)) ∧ Aside0 (kq ≤ kj2) ∧ Aside0 (w'.heap[gb194]? = some (.cells #[.string a0_0, (.slice A0_1 l0_1.length c0_1)] 40 (0, 0))) ∧ Aside0 (w'.heap[gb195]? = some (.cells #[.string a1_0, (.slice A1_1 l1_1.length c1_1)] 40 (0, 0))) ∧ Aside0 (w'.heap[gb196]? = some (.cells #[.string (⟨#[]⟩ : ByteArray), .string (⟨#[]⟩ : ByteArray), .int .i64 0, .int .i64 0, .int .i64 0] 49 (0, 0))) ∧ Aside0 (w'.heap[gb199]? = some (.cells #[.string x200000_2, .string x200001_2, .int .i64 x200002_2, .int .i64 x200003_2, .int .i64 x200004_2] 49 (0, 0))) ∧ Aside0 (Below w.heap.size w w'))
    case atStart => exact ⟨(false), (0), ((⟨#[]⟩ : ByteArray)), ((⟨#[]⟩ : ByteArray)), (0), (0), (0), rs, rs, H', ⟨Nat.le_refl _⟩, ⟨bk BK194⟩, ⟨bk BK195⟩, ⟨bk BK196⟩, ⟨bp BK199⟩, ⟨bq⟩⟩
    case round =>
     clear H'
     try clear c8
     try clear c21
     try clear hcz12_0
     try clear hcz12_1
     try clear hcz15_0
     try clear hcz15_1
     try clear hcz19_0
     try clear hcz19_1
     try clear hcz24_0
     try clear hcz24_1
     try clear hcz24_2
     try clear hcz24_3
     try clear hcz24_4
     try clear hcz29_0
     try clear hcz29_1
     try clear hcz29_2
     try clear hcz29_3
     try clear hcz29_4
     try clear hcz32_0
     try clear hcz32_1
     try clear hfz12_0
     try clear hfz12_1
     try clear hfz15_0
     try clear hfz15_1
     try clear hfz19_0
     try clear hfz19_1
     try clear hfz24_0
     try clear hfz24_1
     try clear hfz24_2
     try clear hfz24_3
     try clear hfz24_4
     try clear hfz29_0
     try clear hfz29_1
     try clear hfz29_2
     try clear hfz29_3
     try clear hfz29_4
     try clear hfz32_0
     try clear hfz32_1
     obtain ⟨x7_2, x27_2, x200000_2, x200001_2, x200002_2, x200003_2, x200004_2, rfl, rfl, HA, HK2, BK194, BK195, BK196, BK199, HB⟩ := hrel
     cases gk with
     | zero => exact absurd HA.out (by simp [impl_ProbeMeet.l0])
     | succ k2 =>
      have H := HA.out
      clear HA
      simp only [impl_ProbeMeet.l0] at H
      by_cases c33 : x27_2 < (l0_1.length : Int)
      ·rw [if_pos c33] at H
       have c33b0 : decide (x27_2 < (l0_1.length : Int)) = true := decide_eq_true c33
       clear c33
       by_cases c34 : 0 ≤ x27_2
       ·rw [if_pos c34] at H
        have c34b0 : decide (0 ≤ x27_2) = true := decide_eq_true c34
        clear c34
        by_cases c35 : x27_2 < (l0_1.length : Int)
        ·rw [if_pos c35] at H
         have c35b0 : decide (x27_2 < (l0_1.length : Int)) = true := decide_eq_true c35
         clear c35
         have H' := Aside0.mk H
         clear H
         have p200 : 0 ≤ (x27_2 : Int) := od
         have q200 : x27_2 < (l0_1.length : Int) := od
         obtain ⟨ad200, e200, hx200_0, hx200_1, hx200_2, hx200_3, hx200_4, hx200_5⟩ := at_T95 HR0_1.out x27_2 p200 q200
         cases e200
         replace hx200_0 := hc HB hx200_0
         replace hx200_1 := hc HB hx200_1
         replace hx200_2 := hc HB hx200_2
         replace hx200_3 := hc HB hx200_3
         replace hx200_4 := hc HB hx200_4
         replace hx200_5 := hc HB hx200_5
         replace p200 := eq_true p200
         replace q200 := eq_true q200
         go_wp2_with (first | ((with_reducible refine gate_dst (N := 9) rfl ?_); refine be 9 #[.int .i64 0, .int .i64 0, .int .i64 0, .int .i64 0, .int .i64 0, .int .i64 0] 95 ?_; intro gb201 hg w36 hbox hb; have _ := bb (bk BK194) hb; have _ := bb (bk BK195) hb; have _ := bb (bk BK196) hb; have _ := bb (bk BK199) hb; have _ := bs hb; have _ := ra (hbox); have _ := bz (w0 := w) hg; have _ := bz (w0 := w) hg; have _ := bn hg (bk BK194); have _ := bm hg (bk BK194); have _ := bn hg (bk BK195); have _ := bm hg (bk BK195); have _ := bn hg (bk BK196); have _ := bm hg (bk BK196); have _ := bn hg (bk BK199); have _ := bm hg (bk BK199); clear BK194 BK195 BK196 BK199 HB; rename_i BK194 BK195 BK196 BK199 HB BK201 GW201 GE201 NB194_201 NB201_194 NB195_201 NB201_195 NB196_201 NB201_196 NB199_201 NB201_199; clear hb hbox hg; have hnb37 := NB201_194.out; have hnc37 := NB194_201.out; have hnb38 := NB201_195.out; have hnc38 := NB195_201.out; have hnb39 := NB201_196.out; have hnc39 := NB196_201.out; have hnb40 := NB201_199.out; have hnc40 := NB199_201.out; obtain ⟨hcz41_0, hcz41_1, hcz41_2, hcz41_3, hcz41_4, hcz41_5, hfz41_0, hfz41_1, hfz41_2, hfz41_3, hfz41_4, hfz41_5⟩ := zc6 BK201; have hnb42 := NB195_194.out; have hnc42 := NB194_195.out; have hnb43 := NB195_196.out; have hnc43 := NB196_195.out; have hnb44 := NB195_199.out; have hnc44 := NB199_195.out; obtain ⟨hcz45_0, hcz45_1, hfz45_0, hfz45_1⟩ := zc2 BK195))
         go_loopg [7, 35] k2 (fun kq v7 v35 w' => ∃ (x7_3 : Bool) (x35_3 : Int) (x200000_3 : ByteArray) (x200001_3 : ByteArray) (x200002_3 : Int) (x200003_3 : Int) (x200004_3 : Int), v7 = .bool x7_3 ∧ v35 = .int .i64 x35_3 ∧ Aside0 (impl_ProbeMeet.l1 kq x7_3 x27_2 l0_1 (l0_1.length : Int) x27_2 l1_1 (l1_1.length : Int) x35_3 a0_0 l0_1 a1_0 l1_1 x200000_3 x200001_3 x200002_3 x200003_3 x200004_3 ((rd_T95 l0_1 x27_2).f0) ((rd_T95 l0_1 x27_2).f1) ((rd_T95 l0_1 x27_2).f2) ((rd_T95 l0_1 x27_2).f3) ((rd_T95 l0_1 x27_2).f4) ((rd_T95 l0_1 x27_2).f5) = some (r1, r2, r3, r4, r5, r6)) ∧ Aside0 (kq ≤ k2) ∧ Aside0 (w'.heap[gb194]? = some (.cells #[.string a0_0, (.slice (some ad200) l0_1.length c0_1)] 40 (0, 0))) ∧ Aside0 (w'.heap[gb195]? = some (.cells #[.string a1_0, (.slice A1_1 l1_1.length c1_1)] 40 (0, 0))) ∧ Aside0 (w'.heap[gb196]? = some (.cells #[.string (⟨#[]⟩ : ByteArray), .string (⟨#[]⟩ : ByteArray), .int .i64 0, .int .i64 0, .int .i64 0] 49 (0, 0))) ∧ Aside0 (w'.heap[gb199]? = some (.cells #[.string x200000_3, .string x200001_3, .int .i64 x200002_3, .int .i64 x200003_3, .int .i64 x200004_3] 49 (0, 0))) ∧ Aside0 (w'.heap[gb201]? = some (.cells #[.int .i64 ((rd_T95 l0_1 x27_2).f0), .int .i64 ((rd_T95 l0_1 x27_2).f1), .int .i64 ((rd_T95 l0_1 x27_2).f2), .int .i64 ((rd_T95 l0_1 x27_2).f3), .int .i64 ((rd_T95 l0_1 x27_2).f4), .int .i64 ((rd_T95 l0_1 x27_2).f5)] 95 (0, 0))) ∧ Aside0 (Below w.heap.size w w'))
         case atStart => exact ⟨(x7_2), (0), (x200000_2), (x200001_2), (x200002_2), (x200003_2), (x200004_2), rs, rs, H', ⟨Nat.le_refl _⟩, ⟨bk BK194⟩, ⟨bk BK195⟩, ⟨bk BK196⟩, ⟨bk BK199⟩, ⟨bp BK201⟩, ⟨bq⟩⟩
         case round =>
          clear H'
          try clear c8
          try clear c21
          try clear c33
          try clear c33b0
          try clear c34
          try clear c34b0
          try clear c35
          try clear c35b0
          try clear hcz12_0
          try clear hcz12_1
          try clear hcz15_0
          try clear hcz15_1
          try clear hcz19_0
          try clear hcz19_1
          try clear hcz24_0
          try clear hcz24_1
          try clear hcz24_2
          try clear hcz24_3
          try clear hcz24_4
          try clear hcz29_0
          try clear hcz29_1
          try clear hcz29_2
          try clear hcz29_3
          try clear hcz29_4
          try clear hcz32_0
          try clear hcz32_1
          try clear hcz41_0
          try clear hcz41_1
          try clear hcz41_2
          try clear hcz41_3
          try clear hcz41_4
          try clear hcz41_5
          try clear hcz45_0
          try clear hcz45_1
          try clear hfz12_0
          try clear hfz12_1
          try clear hfz15_0
          try clear hfz15_1
          try clear hfz19_0
          try clear hfz19_1
          try clear hfz24_0
          try clear hfz24_1
          try clear hfz24_2
          try clear hfz24_3
          try clear hfz24_4
          try clear hfz29_0
          try clear hfz29_1
          try clear hfz29_2
          try clear hfz29_3
          try clear hfz29_4
          try clear hfz32_0
          try clear hfz32_1
          try clear hfz41_0
          try clear hfz41_1
          try clear hfz41_2
          try clear hfz41_3
          try clear hfz41_4
          try clear hfz41_5
          try clear hfz45_0
          try clear hfz45_1
          try clear hx200_0
          try clear hx200_1
          try clear hx200_2
          try clear hx200_3
          try clear hx200_4
          try clear hx200_5
          try clear p200
          try clear q200
          obtain ⟨x7_3, x35_3, x200000_3, x200001_3, x200002_3, x200003_3, x200004_3, rfl, rfl, HA, HK3, BK194, BK195, BK196, BK199, BK201, HB⟩ := hrel
          cases gk with
          | zero => exact absurd HA.out (by simp [impl_ProbeMeet.l1])
          | succ k3 =>
           have H := HA.out
           clear HA
           simp only [impl_ProbeMeet.l1] at H
           by_cases c46 : x35_3 < (l1_1.length : Int)
           ·rw [if_pos c46] at H
            have c46b0 : decide (x35_3 < (l1_1.length : Int)) = true := decide_eq_true c46
            clear c46
            by_cases c47 : 0 ≤ x35_3
            ·rw [if_pos c47] at H
             have c47b0 : decide (0 ≤ x35_3) = true := decide_eq_true c47
             clear c47
             by_cases c48 : x35_3 < (l1_1.length : Int)
             ·rw [if_pos c48] at H
              have c48b0 : decide (x35_3 < (l1_1.length : Int)) = true := decide_eq_true c48
              clear c48
              obtain ⟨⟨t204, t205⟩, A49, H⟩ := bo H
              try dsimp only at H
              by_cases c50 : t205 = true
              ·subst c50
               replace H := it H rfl
               by_cases c51 : x7_3 = true
               ·subst c51
                replace H := it H rfl
                by_cases c52 : t204 < x200002_3
                ·rw [if_pos c52] at H
                 have c52b0 : decide (t204 < x200002_3) = true := decide_eq_true c52
                 clear c52
                 have H' := Aside0.mk H
                 clear H
                 have p202 : 0 ≤ (x35_3 : Int) := od
                 have q202 : x35_3 < (l1_1.length : Int) := od
                 obtain ⟨ad202, e202, hx202_0, hx202_1, hx202_2, hx202_3, hx202_4, hx202_5⟩ := at_T95 HR1_1.out x35_3 p202 q202
                 cases e202
                 replace hx202_0 := hc HB hx202_0
                 replace hx202_1 := hc HB hx202_1
                 replace hx202_2 := hc HB hx202_2
                 replace hx202_3 := hc HB hx202_3
                 replace hx202_4 := hc HB hx202_4
                 replace hx202_5 := hc HB hx202_5
                 replace p202 := eq_true p202
                 replace q202 := eq_true q202
                 go_wp2_with (first | ((with_reducible refine gate_dst (N := 11) rfl ?_); refine be 11 #[.int .i64 0, .int .i64 0, .int .i64 0, .int .i64 0, .int .i64 0, .int .i64 0] 95 ?_; intro gb203 hg w53 hbox hb; have _ := bb (bk BK194) hb; have _ := bb (bk BK195) hb; have _ := bb (bk BK196) hb; have _ := bb (bk BK199) hb; have _ := bb (bk BK201) hb; have _ := bs hb; have _ := ra (hbox); have _ := bz (w0 := w) hg; have _ := bz (w0 := w) hg; have _ := bn hg (bk BK194); have _ := bm hg (bk BK194); have _ := bn hg (bk BK195); have _ := bm hg (bk BK195); have _ := bn hg (bk BK196); have _ := bm hg (bk BK196); have _ := bn hg (bk BK199); have _ := bm hg (bk BK199); have _ := bn hg (bk BK201); have _ := bm hg (bk BK201); clear BK194 BK195 BK196 BK199 BK201 HB; rename_i BK194 BK195 BK196 BK199 BK201 HB BK203 GW203 GE203 NB194_203 NB203_194 NB195_203 NB203_195 NB196_203 NB203_196 NB199_203 NB203_199 NB201_203 NB203_201; clear hb hbox hg; have hnb54 := NB203_194.out; have hnc54 := NB194_203.out; have hnb55 := NB203_195.out; have hnc55 := NB195_203.out; have hnb56 := NB203_196.out; have hnc56 := NB196_203.out; have hnb57 := NB203_199.out; have hnc57 := NB199_203.out; have hnb58 := NB203_201.out; have hnc58 := NB201_203.out; obtain ⟨hcz59_0, hcz59_1, hcz59_2, hcz59_3, hcz59_4, hcz59_5, hfz59_0, hfz59_1, hfz59_2, hfz59_3, hfz59_4, hfz59_5⟩ := zc6 BK203; have hnb60 := NB201_194.out; have hnc60 := NB194_201.out; have hnb61 := NB201_195.out; have hnc61 := NB195_201.out; have hnb62 := NB201_196.out; have hnc62 := NB196_201.out; have hnb63 := NB201_199.out; have hnc63 := NB199_201.out; obtain ⟨hcz64_0, hcz64_1, hcz64_2, hcz64_3, hcz64_4, hcz64_5, hfz64_0, hfz64_1, hfz64_2, hfz64_3, hfz64_4, hfz64_5⟩ := zc6 BK201) | ((with_reducible refine gate_callee (f := 76) rfl ?_); refine gl (some 43) Try.func76 #[.agg #[.int .i64 ((rd_T95 l0_1 x27_2).f0), .int .i64 ((rd_T95 l0_1 x27_2).f1), .int .i64 ((rd_T95 l0_1 x27_2).f2), .int .i64 ((rd_T95 l0_1 x27_2).f3), .int .i64 ((rd_T95 l0_1 x27_2).f4), .int .i64 ((rd_T95 l0_1 x27_2).f5)], .agg #[.int .i64 ((rd_T95 l1_1 x35_3).f0), .int .i64 ((rd_T95 l1_1 x35_3).f1), .int .i64 ((rd_T95 l1_1 x35_3).f2), .int .i64 ((rd_T95 l1_1 x35_3).f3), .int .i64 ((rd_T95 l1_1 x35_3).f4), .int .i64 ((rd_T95 l1_1 x35_3).f5)]] ?_; (with_reducible refine (impl_ProbeClose.calls k3 ((rd_T95 l0_1 x27_2).f0) ((rd_T95 l0_1 x27_2).f1) ((rd_T95 l0_1 x27_2).f2) ((rd_T95 l0_1 x27_2).f3) ((rd_T95 l0_1 x27_2).f4) ((rd_T95 l0_1 x27_2).f5) ((rd_T95 l1_1 x35_3).f0) ((rd_T95 l1_1 x35_3).f1) ((rd_T95 l1_1 x35_3).f2) ((rd_T95 l1_1 x35_3).f3) ((rd_T95 l1_1 x35_3).f4) ((rd_T95 l1_1 x35_3).f5) t204 true _ A49.out).mono ?_); rintro e w65 ⟨rfl, hb⟩; refine ⟨_, rfl, ?_⟩; have _ := bb (bk BK194) hb; have _ := bb (bk BK195) hb; have _ := bb (bk BK196) hb; have _ := bb (bk BK199) hb; have _ := bb (bk BK201) hb; have _ := bb (o := .cells #[.int .i64 ((rd_T95 l1_1 x35_3).f0), .int .i64 ((rd_T95 l1_1 x35_3).f1), .int .i64 ((rd_T95 l1_1 x35_3).f2), .int .i64 ((rd_T95 l1_1 x35_3).f3), .int .i64 ((rd_T95 l1_1 x35_3).f4), .int .i64 ((rd_T95 l1_1 x35_3).f5)] 95 (0, 0)) (bp BK203) hb; have _ := bs hb; clear BK194 BK195 BK196 BK199 BK201 BK203 HB; rename_i BK194 BK195 BK196 BK199 BK201 BK203 HB; (try clear hb); (try clear hb2); (try clear hk); (try clear hi); have hnb66 := NB199_194.out; have hnc66 := NB194_199.out; have hnb67 := NB199_195.out; have hnc67 := NB195_199.out; have hnb68 := NB199_196.out; have hnc68 := NB196_199.out; obtain ⟨hcz69_0, hcz69_1, hcz69_2, hcz69_3, hcz69_4, hfz69_0, hfz69_1, hfz69_2, hfz69_3, hfz69_4⟩ := zc5 BK199; have hnb70 := NB194_195.out; have hnc70 := NB195_194.out; have hnb71 := NB194_196.out; have hnc71 := NB196_194.out; obtain ⟨hcz72_0, hcz72_1, hfz72_0, hfz72_1⟩ := zc2 BK194; have hnb73 := NB195_196.out; have hnc73 := NB196_195.out; obtain ⟨hcz74_0, hcz74_1, hfz74_0, hfz74_1⟩ := zc2 BK195))
                 go_roundg k3
                 case measure => have := HJ2.out; have := HK2.out; have := HK3.out; omega
                 case rel => exact ⟨(true), (wrap64 (x35_3 + 1)), (a0_0), (a1_0), (t204), (x27_2), (x35_3), rs, rs, H', ⟨by have := HJ2.out; have := HK2.out; have := HK3.out; omega⟩, ⟨bk BK194⟩, ⟨bk BK195⟩, ⟨bk BK196⟩, ⟨bp BK199⟩, ⟨bk BK201⟩, ⟨bq⟩⟩
                ·rw [if_neg c52] at H
                 have c52b0 : decide (t204 < x200002_3) = false := decide_eq_false c52
                 clear c52
                 have H' := Aside0.mk H
                 clear H
                 have p202 : 0 ≤ (x35_3 : Int) := od
                 have q202 : x35_3 < (l1_1.length : Int) := od
                 obtain ⟨ad202, e202, hx202_0, hx202_1, hx202_2, hx202_3, hx202_4, hx202_5⟩ := at_T95 HR1_1.out x35_3 p202 q202
                 cases e202
                 replace hx202_0 := hc HB hx202_0
                 replace hx202_1 := hc HB hx202_1
                 replace hx202_2 := hc HB hx202_2
                 replace hx202_3 := hc HB hx202_3
                 replace hx202_4 := hc HB hx202_4
                 replace hx202_5 := hc HB hx202_5
                 replace p202 := eq_true p202
                 replace q202 := eq_true q202
                 go_wp2_with (first | ((with_reducible refine gate_dst (N := 11) rfl ?_); refine be 11 #[.int .i64 0, .int .i64 0, .int .i64 0, .int .i64 0, .int .i64 0, .int .i64 0] 95 ?_; intro gb203 hg w75 hbox hb; have _ := bb (bk BK194) hb; have _ := bb (bk BK195) hb; have _ := bb (bk BK196) hb; have _ := bb (bk BK199) hb; have _ := bb (bk BK201) hb; have _ := bs hb; have _ := ra (hbox); have _ := bz (w0 := w) hg; have _ := bz (w0 := w) hg; have _ := bn hg (bk BK194); have _ := bm hg (bk BK194); have _ := bn hg (bk BK195); have _ := bm hg (bk BK195); have _ := bn hg (bk BK196); have _ := bm hg (bk BK196); have _ := bn hg (bk BK199); have _ := bm hg (bk BK199); have _ := bn hg (bk BK201); have _ := bm hg (bk BK201); clear BK194 BK195 BK196 BK199 BK201 HB; rename_i BK194 BK195 BK196 BK199 BK201 HB BK203 GW203 GE203 NB194_203 NB203_194 NB195_203 NB203_195 NB196_203 NB203_196 NB199_203 NB203_199 NB201_203 NB203_201; clear hb hbox hg; have hnb76 := NB203_194.out; have hnc76 := NB194_203.out; have hnb77 := NB203_195.out; have hnc77 := NB195_203.out; have hnb78 := NB203_196.out; have hnc78 := NB196_203.out; have hnb79 := NB203_199.out; have hnc79 := NB199_203.out; have hnb80 := NB203_201.out; have hnc80 := NB201_203.out; obtain ⟨hcz81_0, hcz81_1, hcz81_2, hcz81_3, hcz81_4, hcz81_5, hfz81_0, hfz81_1, hfz81_2, hfz81_3, hfz81_4, hfz81_5⟩ := zc6 BK203; have hnb82 := NB201_194.out; have hnc82 := NB194_201.out; have hnb83 := NB201_195.out; have hnc83 := NB195_201.out; have hnb84 := NB201_196.out; have hnc84 := NB196_201.out; have hnb85 := NB201_199.out; have hnc85 := NB199_201.out; obtain ⟨hcz86_0, hcz86_1, hcz86_2, hcz86_3, hcz86_4, hcz86_5, hfz86_0, hfz86_1, hfz86_2, hfz86_3, hfz86_4, hfz86_5⟩ := zc6 BK201) | ((with_reducible refine gate_callee (f := 76) rfl ?_); refine gl (some 43) Try.func76 #[.agg #[.int .i64 ((rd_T95 l0_1 x27_2).f0), .int .i64 ((rd_T95 l0_1 x27_2).f1), .int .i64 ((rd_T95 l0_1 x27_2).f2), .int .i64 ((rd_T95 l0_1 x27_2).f3), .int .i64 ((rd_T95 l0_1 x27_2).f4), .int .i64 ((rd_T95 l0_1 x27_2).f5)], .agg #[.int .i64 ((rd_T95 l1_1 x35_3).f0), .int .i64 ((rd_T95 l1_1 x35_3).f1), .int .i64 ((rd_T95 l1_1 x35_3).f2), .int .i64 ((rd_T95 l1_1 x35_3).f3), .int .i64 ((rd_T95 l1_1 x35_3).f4), .int .i64 ((rd_T95 l1_1 x35_3).f5)]] ?_; (with_reducible refine (impl_ProbeClose.calls k3 ((rd_T95 l0_1 x27_2).f0) ((rd_T95 l0_1 x27_2).f1) ((rd_T95 l0_1 x27_2).f2) ((rd_T95 l0_1 x27_2).f3) ((rd_T95 l0_1 x27_2).f4) ((rd_T95 l0_1 x27_2).f5) ((rd_T95 l1_1 x35_3).f0) ((rd_T95 l1_1 x35_3).f1) ((rd_T95 l1_1 x35_3).f2) ((rd_T95 l1_1 x35_3).f3) ((rd_T95 l1_1 x35_3).f4) ((rd_T95 l1_1 x35_3).f5) t204 true _ A49.out).mono ?_); rintro e w87 ⟨rfl, hb⟩; refine ⟨_, rfl, ?_⟩; have _ := bb (bk BK194) hb; have _ := bb (bk BK195) hb; have _ := bb (bk BK196) hb; have _ := bb (bk BK199) hb; have _ := bb (bk BK201) hb; have _ := bb (o := .cells #[.int .i64 ((rd_T95 l1_1 x35_3).f0), .int .i64 ((rd_T95 l1_1 x35_3).f1), .int .i64 ((rd_T95 l1_1 x35_3).f2), .int .i64 ((rd_T95 l1_1 x35_3).f3), .int .i64 ((rd_T95 l1_1 x35_3).f4), .int .i64 ((rd_T95 l1_1 x35_3).f5)] 95 (0, 0)) (bp BK203) hb; have _ := bs hb; clear BK194 BK195 BK196 BK199 BK201 BK203 HB; rename_i BK194 BK195 BK196 BK199 BK201 BK203 HB; (try clear hb); (try clear hb2); (try clear hk); (try clear hi); have hnb88 := NB199_194.out; have hnc88 := NB194_199.out; have hnb89 := NB199_195.out; have hnc89 := NB195_199.out; have hnb90 := NB199_196.out; have hnc90 := NB196_199.out; obtain ⟨hcz91_0, hcz91_1, hcz91_2, hcz91_3, hcz91_4, hfz91_0, hfz91_1, hfz91_2, hfz91_3, hfz91_4⟩ := zc5 BK199))
                 go_roundg k3
                 case measure => have := HJ2.out; have := HK2.out; have := HK3.out; omega
                 case rel => exact ⟨(true), (wrap64 (x35_3 + 1)), (x200000_3), (x200001_3), (x200002_3), (x200003_3), (x200004_3), rs, rs, H', ⟨by have := HJ2.out; have := HK2.out; have := HK3.out; omega⟩, ⟨bk BK194⟩, ⟨bk BK195⟩, ⟨bk BK196⟩, ⟨bk BK199⟩, ⟨bk BK201⟩, ⟨bq⟩⟩
               ·replace c51 := Bool.eq_false_iff.mpr c51
                subst c51
                have H1 : (impl_ProbeMeet.l1 k3 true x27_2 l0_1 (l0_1.length : Int) x27_2 l1_1 (l1_1.length : Int) (wrap64 (x35_3 + 1)) a0_0 l0_1 a1_0 l1_1 a0_0 a1_0 t204 x27_2 x35_3 ((rd_T95 l0_1 x27_2).f0) ((rd_T95 l0_1 x27_2).f1) ((rd_T95 l0_1 x27_2).f2) ((rd_T95 l0_1 x27_2).f3) ((rd_T95 l0_1 x27_2).f4) ((rd_T95 l0_1 x27_2).f5)) = some (r1, r2, r3, r4, r5, r6) := by rw [if_neg (show ¬ (false = true) by decide)] at H; exact H
                clear H
                have H := H1
                clear H1
                have H' := Aside0.mk H
                clear H
                have p202 : 0 ≤ (x35_3 : Int) := od
                have q202 : x35_3 < (l1_1.length : Int) := od
                obtain ⟨ad202, e202, hx202_0, hx202_1, hx202_2, hx202_3, hx202_4, hx202_5⟩ := at_T95 HR1_1.out x35_3 p202 q202
                cases e202
                replace hx202_0 := hc HB hx202_0
                replace hx202_1 := hc HB hx202_1
                replace hx202_2 := hc HB hx202_2
                replace hx202_3 := hc HB hx202_3
                replace hx202_4 := hc HB hx202_4
                replace hx202_5 := hc HB hx202_5
                replace p202 := eq_true p202
                replace q202 := eq_true q202
                go_wp2_with (first | ((with_reducible refine gate_dst (N := 11) rfl ?_); refine be 11 #[.int .i64 0, .int .i64 0, .int .i64 0, .int .i64 0, .int .i64 0, .int .i64 0] 95 ?_; intro gb203 hg w92 hbox hb; have _ := bb (bk BK194) hb; have _ := bb (bk BK195) hb; have _ := bb (bk BK196) hb; have _ := bb (bk BK199) hb; have _ := bb (bk BK201) hb; have _ := bs hb; have _ := ra (hbox); have _ := bz (w0 := w) hg; have _ := bz (w0 := w) hg; have _ := bn hg (bk BK194); have _ := bm hg (bk BK194); have _ := bn hg (bk BK195); have _ := bm hg (bk BK195); have _ := bn hg (bk BK196); have _ := bm hg (bk BK196); have _ := bn hg (bk BK199); have _ := bm hg (bk BK199); have _ := bn hg (bk BK201); have _ := bm hg (bk BK201); clear BK194 BK195 BK196 BK199 BK201 HB; rename_i BK194 BK195 BK196 BK199 BK201 HB BK203 GW203 GE203 NB194_203 NB203_194 NB195_203 NB203_195 NB196_203 NB203_196 NB199_203 NB203_199 NB201_203 NB203_201; clear hb hbox hg; have hnb93 := NB203_194.out; have hnc93 := NB194_203.out; have hnb94 := NB203_195.out; have hnc94 := NB195_203.out; have hnb95 := NB203_196.out; have hnc95 := NB196_203.out; have hnb96 := NB203_199.out; have hnc96 := NB199_203.out; have hnb97 := NB203_201.out; have hnc97 := NB201_203.out; obtain ⟨hcz98_0, hcz98_1, hcz98_2, hcz98_3, hcz98_4, hcz98_5, hfz98_0, hfz98_1, hfz98_2, hfz98_3, hfz98_4, hfz98_5⟩ := zc6 BK203; have hnb99 := NB201_194.out; have hnc99 := NB194_201.out; have hnb100 := NB201_195.out; have hnc100 := NB195_201.out; have hnb101 := NB201_196.out; have hnc101 := NB196_201.out; have hnb102 := NB201_199.out; have hnc102 := NB199_201.out; obtain ⟨hcz103_0, hcz103_1, hcz103_2, hcz103_3, hcz103_4, hcz103_5, hfz103_0, hfz103_1, hfz103_2, hfz103_3, hfz103_4, hfz103_5⟩ := zc6 BK201) | ((with_reducible refine gate_callee (f := 76) rfl ?_); refine gl (some 43) Try.func76 #[.agg #[.int .i64 ((rd_T95 l0_1 x27_2).f0), .int .i64 ((rd_T95 l0_1 x27_2).f1), .int .i64 ((rd_T95 l0_1 x27_2).f2), .int .i64 ((rd_T95 l0_1 x27_2).f3), .int .i64 ((rd_T95 l0_1 x27_2).f4), .int .i64 ((rd_T95 l0_1 x27_2).f5)], .agg #[.int .i64 ((rd_T95 l1_1 x35_3).f0), .int .i64 ((rd_T95 l1_1 x35_3).f1), .int .i64 ((rd_T95 l1_1 x35_3).f2), .int .i64 ((rd_T95 l1_1 x35_3).f3), .int .i64 ((rd_T95 l1_1 x35_3).f4), .int .i64 ((rd_T95 l1_1 x35_3).f5)]] ?_; (with_reducible refine (impl_ProbeClose.calls k3 ((rd_T95 l0_1 x27_2).f0) ((rd_T95 l0_1 x27_2).f1) ((rd_T95 l0_1 x27_2).f2) ((rd_T95 l0_1 x27_2).f3) ((rd_T95 l0_1 x27_2).f4) ((rd_T95 l0_1 x27_2).f5) ((rd_T95 l1_1 x35_3).f0) ((rd_T95 l1_1 x35_3).f1) ((rd_T95 l1_1 x35_3).f2) ((rd_T95 l1_1 x35_3).f3) ((rd_T95 l1_1 x35_3).f4) ((rd_T95 l1_1 x35_3).f5) t204 true _ A49.out).mono ?_); rintro e w104 ⟨rfl, hb⟩; refine ⟨_, rfl, ?_⟩; have _ := bb (bk BK194) hb; have _ := bb (bk BK195) hb; have _ := bb (bk BK196) hb; have _ := bb (bk BK199) hb; have _ := bb (bk BK201) hb; have _ := bb (o := .cells #[.int .i64 ((rd_T95 l1_1 x35_3).f0), .int .i64 ((rd_T95 l1_1 x35_3).f1), .int .i64 ((rd_T95 l1_1 x35_3).f2), .int .i64 ((rd_T95 l1_1 x35_3).f3), .int .i64 ((rd_T95 l1_1 x35_3).f4), .int .i64 ((rd_T95 l1_1 x35_3).f5)] 95 (0, 0)) (bp BK203) hb; have _ := bs hb; clear BK194 BK195 BK196 BK199 BK201 BK203 HB; rename_i BK194 BK195 BK196 BK199 BK201 BK203 HB; (try clear hb); (try clear hb2); (try clear hk); (try clear hi); have hnb105 := NB194_195.out; have hnc105 := NB195_194.out; have hnb106 := NB194_196.out; have hnc106 := NB196_194.out; have hnb107 := NB194_199.out; have hnc107 := NB199_194.out; obtain ⟨hcz108_0, hcz108_1, hfz108_0, hfz108_1⟩ := zc2 BK194; have hnb109 := NB195_196.out; have hnc109 := NB196_195.out; have hnb110 := NB195_199.out; have hnc110 := NB199_195.out; obtain ⟨hcz111_0, hcz111_1, hfz111_0, hfz111_1⟩ := zc2 BK195; have hnb112 := NB199_196.out; have hnc112 := NB196_199.out; obtain ⟨hcz113_0, hcz113_1, hcz113_2, hcz113_3, hcz113_4, hfz113_0, hfz113_1, hfz113_2, hfz113_3, hfz113_4⟩ := zc5 BK199))
                go_roundg k3
                case measure => have := HJ2.out; have := HK2.out; have := HK3.out; omega
                case rel => exact ⟨(true), (wrap64 (x35_3 + 1)), (a0_0), (a1_0), (t204), (x27_2), (x35_3), rs, rs, H', ⟨by have := HJ2.out; have := HK2.out; have := HK3.out; omega⟩, ⟨bk BK194⟩, ⟨bk BK195⟩, ⟨bk BK196⟩, ⟨bp BK199⟩, ⟨bk BK201⟩, ⟨bq⟩⟩
              ·replace c50 := Bool.eq_false_iff.mpr c50
               subst c50
               have H1 : (impl_ProbeMeet.l1 k3 x7_3 x27_2 l0_1 (l0_1.length : Int) x27_2 l1_1 (l1_1.length : Int) (wrap64 (x35_3 + 1)) a0_0 l0_1 a1_0 l1_1 x200000_3 x200001_3 x200002_3 x200003_3 x200004_3 ((rd_T95 l0_1 x27_2).f0) ((rd_T95 l0_1 x27_2).f1) ((rd_T95 l0_1 x27_2).f2) ((rd_T95 l0_1 x27_2).f3) ((rd_T95 l0_1 x27_2).f4) ((rd_T95 l0_1 x27_2).f5)) = some (r1, r2, r3, r4, r5, r6) := by rw [if_neg (show ¬ (false = true) by decide)] at H; exact H
               clear H
               have H := H1
               clear H1
               have H' := Aside0.mk H
               clear H
               have p202 : 0 ≤ (x35_3 : Int) := od
               have q202 : x35_3 < (l1_1.length : Int) := od
               obtain ⟨ad202, e202, hx202_0, hx202_1, hx202_2, hx202_3, hx202_4, hx202_5⟩ := at_T95 HR1_1.out x35_3 p202 q202
               cases e202
               replace hx202_0 := hc HB hx202_0
               replace hx202_1 := hc HB hx202_1
               replace hx202_2 := hc HB hx202_2
               replace hx202_3 := hc HB hx202_3
               replace hx202_4 := hc HB hx202_4
               replace hx202_5 := hc HB hx202_5
               replace p202 := eq_true p202
               replace q202 := eq_true q202
               go_wp2_with (first | ((with_reducible refine gate_dst (N := 11) rfl ?_); refine be 11 #[.int .i64 0, .int .i64 0, .int .i64 0, .int .i64 0, .int .i64 0, .int .i64 0] 95 ?_; intro gb203 hg w114 hbox hb; have _ := bb (bk BK194) hb; have _ := bb (bk BK195) hb; have _ := bb (bk BK196) hb; have _ := bb (bk BK199) hb; have _ := bb (bk BK201) hb; have _ := bs hb; have _ := ra (hbox); have _ := bz (w0 := w) hg; have _ := bz (w0 := w) hg; have _ := bn hg (bk BK194); have _ := bm hg (bk BK194); have _ := bn hg (bk BK195); have _ := bm hg (bk BK195); have _ := bn hg (bk BK196); have _ := bm hg (bk BK196); have _ := bn hg (bk BK199); have _ := bm hg (bk BK199); have _ := bn hg (bk BK201); have _ := bm hg (bk BK201); clear BK194 BK195 BK196 BK199 BK201 HB; rename_i BK194 BK195 BK196 BK199 BK201 HB BK203 GW203 GE203 NB194_203 NB203_194 NB195_203 NB203_195 NB196_203 NB203_196 NB199_203 NB203_199 NB201_203 NB203_201; clear hb hbox hg; have hnb115 := NB203_194.out; have hnc115 := NB194_203.out; have hnb116 := NB203_195.out; have hnc116 := NB195_203.out; have hnb117 := NB203_196.out; have hnc117 := NB196_203.out; have hnb118 := NB203_199.out; have hnc118 := NB199_203.out; have hnb119 := NB203_201.out; have hnc119 := NB201_203.out; obtain ⟨hcz120_0, hcz120_1, hcz120_2, hcz120_3, hcz120_4, hcz120_5, hfz120_0, hfz120_1, hfz120_2, hfz120_3, hfz120_4, hfz120_5⟩ := zc6 BK203; have hnb121 := NB201_194.out; have hnc121 := NB194_201.out; have hnb122 := NB201_195.out; have hnc122 := NB195_201.out; have hnb123 := NB201_196.out; have hnc123 := NB196_201.out; have hnb124 := NB201_199.out; have hnc124 := NB199_201.out; obtain ⟨hcz125_0, hcz125_1, hcz125_2, hcz125_3, hcz125_4, hcz125_5, hfz125_0, hfz125_1, hfz125_2, hfz125_3, hfz125_4, hfz125_5⟩ := zc6 BK201) | ((with_reducible refine gate_callee (f := 76) rfl ?_); refine gl (some 43) Try.func76 #[.agg #[.int .i64 ((rd_T95 l0_1 x27_2).f0), .int .i64 ((rd_T95 l0_1 x27_2).f1), .int .i64 ((rd_T95 l0_1 x27_2).f2), .int .i64 ((rd_T95 l0_1 x27_2).f3), .int .i64 ((rd_T95 l0_1 x27_2).f4), .int .i64 ((rd_T95 l0_1 x27_2).f5)], .agg #[.int .i64 ((rd_T95 l1_1 x35_3).f0), .int .i64 ((rd_T95 l1_1 x35_3).f1), .int .i64 ((rd_T95 l1_1 x35_3).f2), .int .i64 ((rd_T95 l1_1 x35_3).f3), .int .i64 ((rd_T95 l1_1 x35_3).f4), .int .i64 ((rd_T95 l1_1 x35_3).f5)]] ?_; (with_reducible refine (impl_ProbeClose.calls k3 ((rd_T95 l0_1 x27_2).f0) ((rd_T95 l0_1 x27_2).f1) ((rd_T95 l0_1 x27_2).f2) ((rd_T95 l0_1 x27_2).f3) ((rd_T95 l0_1 x27_2).f4) ((rd_T95 l0_1 x27_2).f5) ((rd_T95 l1_1 x35_3).f0) ((rd_T95 l1_1 x35_3).f1) ((rd_T95 l1_1 x35_3).f2) ((rd_T95 l1_1 x35_3).f3) ((rd_T95 l1_1 x35_3).f4) ((rd_T95 l1_1 x35_3).f5) t204 false _ A49.out).mono ?_); rintro e w126 ⟨rfl, hb⟩; refine ⟨_, rfl, ?_⟩; have _ := bb (bk BK194) hb; have _ := bb (bk BK195) hb; have _ := bb (bk BK196) hb; have _ := bb (bk BK199) hb; have _ := bb (bk BK201) hb; have _ := bb (o := .cells #[.int .i64 ((rd_T95 l1_1 x35_3).f0), .int .i64 ((rd_T95 l1_1 x35_3).f1), .int .i64 ((rd_T95 l1_1 x35_3).f2), .int .i64 ((rd_T95 l1_1 x35_3).f3), .int .i64 ((rd_T95 l1_1 x35_3).f4), .int .i64 ((rd_T95 l1_1 x35_3).f5)] 95 (0, 0)) (bp BK203) hb; have _ := bs hb; clear BK194 BK195 BK196 BK199 BK201 BK203 HB; rename_i BK194 BK195 BK196 BK199 BK201 BK203 HB; (try clear hb); (try clear hb2); (try clear hk); (try clear hi)))
               go_roundg k3
               case measure => have := HJ2.out; have := HK2.out; have := HK3.out; omega
               case rel => exact ⟨(x7_3), (wrap64 (x35_3 + 1)), (x200000_3), (x200001_3), (x200002_3), (x200003_3), (x200004_3), rs, rs, H', ⟨by have := HJ2.out; have := HK2.out; have := HK3.out; omega⟩, ⟨bk BK194⟩, ⟨bk BK195⟩, ⟨bk BK196⟩, ⟨bk BK199⟩, ⟨bk BK201⟩, ⟨bq⟩⟩
             ·rw [if_neg c48] at H
              exact absurd H (by simp)
            ·rw [if_neg c47] at H
             exact absurd H (by simp)
           ·rw [if_neg c46] at H
            have c46b0 : decide (x35_3 < (l1_1.length : Int)) = false := decide_eq_false c46
            clear c46
            have H' := Aside0.mk H
            clear H
            go_wp2
            go_roundg k3
            case measure => have := HJ2.out; have := HK2.out; have := HK3.out; omega
            case rel => exact ⟨(x7_3), (wrap64 (x27_2 + 1)), (x200000_3), (x200001_3), (x200002_3), (x200003_3), (x200004_3), rs, rs, H', ⟨by have := HJ2.out; have := HK2.out; have := HK3.out; omega⟩, ⟨bk BK194⟩, ⟨bk BK195⟩, ⟨bk BK196⟩, ⟨bk BK199⟩, ⟨bq⟩⟩
        ·rw [if_neg c35] at H
         exact absurd H (by simp)
       ·rw [if_neg c34] at H
        exact absurd H (by simp)
      ·rw [if_neg c33] at H
       have c33b0 : decide (x27_2 < (l0_1.length : Int)) = false := decide_eq_false c33
       clear c33
       simp only [Option.some.injEq, Prod.mk.injEq] at H
       obtain ⟨rfl, rfl, rfl, rfl, rfl, rfl⟩ := H
       have hnb127 := NB199_194.out
       have hnc127 := NB194_199.out
       have hnb128 := NB199_195.out
       have hnc128 := NB195_199.out
       have hnb129 := NB199_196.out
       have hnc129 := NB196_199.out
       obtain ⟨hcz130_0, hcz130_1, hcz130_2, hcz130_3, hcz130_4, hfz130_0, hfz130_1, hfz130_2, hfz130_3, hfz130_4⟩ := zc5 BK199
       have hnb131 := NB196_194.out
       have hnc131 := NB194_196.out
       have hnb132 := NB196_195.out
       have hnc132 := NB195_196.out
       obtain ⟨hcz133_0, hcz133_1, hcz133_2, hcz133_3, hcz133_4, hfz133_0, hfz133_1, hfz133_2, hfz133_3, hfz133_4⟩ := zc5 BK196
       go_wp2
       refine bodyPost_ret (results_ct rfl _ _ gb196 49 #[.string x200000_2, .string x200001_2, .int .i64 x200002_2, .int .i64 x200003_2, .int .i64 x200004_2] (0, 0) _ rfl (bp BK196) Try.underlying49 rfl (by kernel_rfl)) rfl ?_
       exact ⟨re, bq⟩
end Go.Proofs.Ytdbomnhdpniigaa.PA
