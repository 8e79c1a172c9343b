/- Contracts of the functions impl_ProbeWith, impl_ProbeFree. (Began as a print of the kit's tool.) -/
import Derived.Test.YtdbomnhdpniigaaPAd
import Derived.Test.YtdbomnhdpniigaaCx
import Derived.Test.YtdbomnhdpniigaaCy
import Derived.Test.YtdbomnhdpniigaaGSky
import Derived.Test.YtdbomnhdpniigaaGBase
import Derived.Test.YtdbomnhdpniigaaGMeet
namespace Go.Proofs.Ytdbomnhdpniigaa.PA
open Go.RowKit Go.Proofs.YtdbomnhdpniigaaW.PrintWords Go.Proofs.YtdbomnhdpniigaaW.PrintLast Go.Proofs.YtdbomnhdpniigaaW.PrintMore Go.Proofs.Ytdbomnhdpniigaa.Z
attribute [local go_sem] max2_int min2_int max_two min_two max_three min_three max_four min_four
set_option linter.unusedVariables false
set_option linter.unusedSimpArgs false
set_option maxHeartbeats 8000000 in
set_option maxRecDepth 100000 in
theorem impl_ProbeWith.calls (k : Nat) (A0 : Option Addr) (c0 : Nat) (l0 : List (S40)) (a1_0 : ByteArray) (A1_1 : Option Addr) (c1_1 : Nat) (l1_1 : List (S95)) (r : List (S49)) (w : World) (hr0 : Kd.C k40 w A0 l0.length l0) (hc0 : l0.length ≤ c0) (hr1_1 : Kd.C k95 w A1_1 l1_1.length l1_1) (hc1_1 : l1_1.length ≤ c1_1) (h : impl_ProbeWith.f k l0 a1_0 l1_1 = some r) :
  Calls Try.prog 21 #[.slice A0 l0.length c0, .agg #[.string a1_0, .slice A1_1 l1_1.length c1_1]] w fun e w' => ∃ v0_ : Value, e = .returned (v0_) ∧ Kd.R k49 49 w' w.heap.size (fun _ => True) v0_ r ∧ Below w.heap.size w w' := by
 have hu40 := Try.underlying40
 have hu49 := Try.underlying49
 have HR0 := Aside0.mk hr0
 have HC0 := Aside0.mk hc0
 clear hr0 hc0
 have HR1_1 := Aside0.mk hr1_1
 have HC1_1 := Aside0.mk hc1_1
 clear hr1_1 hc1_1
 have HB := ra (Below.refl w.heap.size w)
 have H : ((impl_ProbeSkyOk.f k l0).bind fun t332 => (if t332 = true then ((impl_ProbeTubeOk.f k a1_0 l1_1).bind fun t333 => (impl_ProbeWith.j0 k l0 (!t333) a1_0 l1_1)) else (impl_ProbeWith.j0 k l0 true a1_0 l1_1))) = some r := h
 clear h
 have HC3 := Aside0.mk H
 clear H
 go_enter Try.func21, Try.ntmps21
 go_upto_region 1 with (first | ((with_reducible refine gate_dst (N := 3) rfl ?_); refine be 3 #[.string a1_0, .slice A1_1 l1_1.length c1_1] 40 ?_; intro gb331 hg w4 hbox hb; have _ := bs hb; have _ := ra (hbox); have _ := bz (w0 := w) hg; have _ := bz (w0 := w) hg; clear HB; rename_i HB BK331 GW331 GE331; clear hb hbox hg))
 (try simp only [Act.put, List.setIfInBounds_toArray, List.set_cons_zero, List.set_cons_succ])
 go_cut [17] (fun v17 wc => ∃ (kq : Nat) (x17_2 : Bool), v17 = .bool x17_2 ∧ Aside0 (impl_ProbeWith.j0 kq l0 x17_2 a1_0 l1_1 = some r) ∧ Aside0 (kq ≤ k) ∧ Aside0 (wc.heap[gb331]? = some (.cells #[.string a1_0, (.slice A1_1 l1_1.length c1_1)] 40 (0, 0))) ∧ Aside0 (Below w.heap.size w wc))
 case first =>
  have H := HC3.out
  clear HC3
  obtain ⟨t332, A5, H⟩ := bo H
  by_cases c6 : t332 = true
  ·subst c6
   replace H := it H rfl
   obtain ⟨t333, A7, H⟩ := bo H
   have H' := Aside0.mk H
   clear H
   go_wp2_with (first | ((with_reducible refine gate_callee (f := 26) rfl ?_); refine gl (some 11) Try.func26 #[.slice A0 l0.length c0] ?_; (with_reducible refine (impl_ProbeSkyOk.calls k _ _ l0 true _ ?side1 ?side2 A5.out).mono ?_); (case side1 => exact sc HR0); (case side2 => exact HC0.out); rintro e w8 ⟨rfl, hb⟩; refine ⟨_, rfl, ?_⟩; have _ := bb (bk BK331) hb; have _ := bs hb; clear BK331 HB; rename_i BK331 HB; (try clear hb); (try clear hb2); (try clear hk); (try clear hi); obtain ⟨hcz9_0, hcz9_1, hfz9_0, hfz9_1⟩ := zc2 BK331) | (go_at_call 54; (with_reducible refine (impl_ProbeTubeOk.calls k a1_0 _ _ l1_1 t333 _ ?side1 ?side2 A7.out).mono ?_); (case side1 => exact sc HR1_1); (case side2 => exact HC1_1.out); rintro e w10 ⟨rfl, hb⟩; have _ := bb (bk BK331) hb; have _ := bs hb; clear BK331 HB; rename_i BK331 HB; (try clear hb); (try clear hb2); (try clear hk); (try clear hi)))
   go_meet
   case rel => exact ⟨_, (!t333), rs, H', ⟨by first | omega | exact Nat.le_refl _⟩, ⟨bk BK331⟩, ⟨bq⟩⟩
  ·replace c6 := Bool.eq_false_iff.mpr c6
   subst c6
   have H1 : (impl_ProbeWith.j0 k l0 true a1_0 l1_1) = some r := by rw [if_neg (show ¬ (false = true) by decide)] at H; exact H
   clear H
   have H := H1
   clear H1
   have H' := Aside0.mk H
   clear H
   go_wp2_with (first | ((with_reducible refine gate_callee (f := 26) rfl ?_); refine gl (some 11) Try.func26 #[.slice A0 l0.length c0] ?_; (with_reducible refine (impl_ProbeSkyOk.calls k _ _ l0 false _ ?side1 ?side2 A5.out).mono ?_); (case side1 => exact sc HR0); (case side2 => exact HC0.out); rintro e w11 ⟨rfl, hb⟩; refine ⟨_, rfl, ?_⟩; have _ := bb (bk BK331) hb; have _ := bs hb; clear BK331 HB; rename_i BK331 HB; (try clear hb); (try clear hb2); (try clear hk); (try clear hi)))
   go_meet
   case rel => exact ⟨_, (true), rs, H', ⟨by first | omega | exact Nat.le_refl _⟩, ⟨bk BK331⟩, ⟨bq⟩⟩
 case rest =>
  clear HC3
  try clear c6
  try clear hcz9_0
  try clear hcz9_1
  try clear hfz9_0
  try clear hfz9_1
  obtain ⟨kq, x17_2, rfl, HA, HJ2, BK331, HB⟩ := hcut
  cases kq with
  | zero => exact absurd HA.out (by simp [impl_ProbeWith.j0])
  | succ kj2 =>
   have H := HA.out
   clear HA
   simp only [impl_ProbeWith.j0] at H
   by_cases c12 : x17_2 = true
   ·subst c12
    replace H := it H rfl
    obtain rfl := Option.some.inj H
    go_wp2
    go_ret
    exact ⟨_, re, by first | exact Kd.R_nil _ _ _ _ _ | exact Kd.N_nil _ _ _ _ _ | exact Kd.V_nil _ _ _ _ _ | exact Kd.Q_nil _ _ _ _ _ | exact Kd.S_nil _ _ _ _ _, bq⟩
   ·replace c12 := Bool.eq_false_iff.mpr c12
    subst c12
    have H1 : (impl_ProbeWith.l0 kj2 (([] : List (S49))) l0 (l0.length : Int) 0 a1_0 l1_1) = some r := by rw [if_neg (show ¬ (false = true) by decide)] at H; exact H
    clear H
    have H := H1
    clear H1
    obtain ⟨y334, hy_⟩ : ∃ y_ : List (S49), y_ = (([] : List (S49))) := ⟨_, rfl⟩
    replace H : (impl_ProbeWith.l0 kj2 y334 l0 (l0.length : Int) 0 a1_0 l1_1) = some r := yh
    have Ny334 := ra hy_
    clear hy_
    have H' := Aside0.mk H
    clear H
    go_wp2_with (first | ((with_reducible refine gate_dst (N := 18) rfl ?_); refine Kd.R_lit k49 _ 49 ?hg (N := 18) ?hd (xs := ([] : List (S49))) (inner := []) (ok := fun _ => True) (okp := fun _ => True) ?hr ?hp (fun _ hk => hk) trivial (Below.refl _ _) (Nat.le_refl _) (by simp) ?_; (case hd => rfl); (case hg => rfl); (case hr => first | (go_simp; done) | (go_simp; rfl)); (case hp => exact (Reps.none _ _)); intro v335 w13 ho14 hb hg_ hnew_; clear hg_ hnew_; (first | rw [← Ny334.out] at ho14 | (simp only [Int.reduceToNat] at ho14; rw [← Ny334.out] at ho14)); have _ := ra (Kd.R_lower ho14 (below_size bq)); have _ := bb (bk BK331) hb; have _ := bs hb; clear BK331 HB; rename_i HO336 BK331 HB; clear hb ho14))
    go_loopg [5, 21] kj2 (fun kq v5 v21 w' => ∃ (x5_2 : List (S49)) (x21_2 : Int), v21 = .int .i64 x21_2 ∧ Aside0 (impl_ProbeWith.l0 kq x5_2 l0 (l0.length : Int) x21_2 a1_0 l1_1 = some r) ∧ Aside0 (kq ≤ kj2) ∧ Aside0 (Kd.R k49 49 w' w.heap.size (fun _ => True) v5 x5_2) ∧ Aside0 (w'.heap[gb331]? = some (.cells #[.string a1_0, (.slice A1_1 l1_1.length c1_1)] 40 (0, 0))) ∧ Aside0 (Below w.heap.size w w'))
    case atStart => exact ⟨(y334), (0), rs, H', ⟨Nat.le_refl _⟩, ⟨rq HO336⟩, ⟨bk BK331⟩, ⟨bq⟩⟩
    case round =>
     clear H'
     try clear c6
     try clear c12
     try clear hcz9_0
     try clear hcz9_1
     try clear hfz9_0
     try clear hfz9_1
     obtain ⟨x5_2, x21_2, rfl, HA, HK2, HO_5, BK331, HB⟩ := hrel
     cases gk with
     | zero => exact absurd HA.out (by simp [impl_ProbeWith.l0])
     | succ k2 =>
      have H := HA.out
      clear HA
      simp only [impl_ProbeWith.l0] at H
      by_cases c15 : x21_2 < (l0.length : Int)
      ·rw [if_pos c15] at H
       have c15b0 : decide (x21_2 < (l0.length : Int)) = true := decide_eq_true c15
       clear c15
       by_cases c16 : 0 ≤ x21_2
       ·rw [if_pos c16] at H
        have c16b0 : decide (0 ≤ x21_2) = true := decide_eq_true c16
        clear c16
        by_cases c17 : x21_2 < (l0.length : Int)
        ·rw [if_pos c17] at H
         have c17b0 : decide (x21_2 < (l0.length : Int)) = true := decide_eq_true c17
         clear c17
         obtain ⟨⟨t339, t340, t341, t342, t343, t344⟩, A18, H⟩ := bo H
         try dsimp only at H
         by_cases c19 : t344 = true
         ·subst c19
          replace H := it H rfl
          by_cases c20 : ((rd_T40 l0 x21_2).f0).toList = a1_0.toList
          ·rw [if_pos c20] at H
           have c20b0 : (((rd_T40 l0 x21_2).f0).toList == a1_0.toList) = true := beq_iff_eq.mpr c20
           have c20b1 : (((rd_T40 l0 x21_2).f0).toList != a1_0.toList) = false := bne_eq_false_iff_eq.mpr c20
           clear c20
           have H' := Aside0.mk H
           clear H
           have p337 : 0 ≤ (x21_2 : Int) := od
           have q337 : x21_2 < (l0.length : Int) := od
           obtain ⟨ad337, A337_1, c337_1, e337, hx337_0, hx337_1, hl337_1, hi337_1⟩ := at_T40 HR0.out x21_2 p337 q337
           cases e337
           replace hx337_0 := hc HB hx337_0
           replace hx337_1 := hc HB hx337_1
           have HR337_1 := Aside0.mk hi337_1
           have HC337_1 := Aside0.mk hl337_1
           clear hi337_1 hl337_1
           replace p337 := eq_true p337
           replace q337 := eq_true q337
           go_wp2_with (first | ((with_reducible refine gate_dst (N := 7) rfl ?_); refine be 7 #[.string (⟨#[]⟩ : ByteArray), .slice none 0 0] 40 ?_; intro gb338 hg w21 hbox hb; have _ := ra (Kd.R_below (rq HO_5) hb); have _ := bb (bk BK331) hb; have _ := bs hb; have _ := ra (hbox); have _ := bz (w0 := w) hg; have _ := bz (w0 := w) hg; have _ := bn hg (bk BK331); have _ := bm hg (bk BK331); clear HO_5 BK331 HB; rename_i HO_5 BK331 HB BK338 GW338 GE338 NB331_338 NB338_331; clear hb hbox hg; have hnb22 := NB338_331.out; have hnc22 := NB331_338.out; obtain ⟨hcz23_0, hcz23_1, hfz23_0, hfz23_1⟩ := zc2 BK338; obtain ⟨hcz24_0, hcz24_1, hfz24_0, hfz24_1⟩ := zc2 BK331) | ((with_reducible refine gate_callee (f := 46) rfl ?_); refine gl (some 28) Try.func46 #[.agg #[.string a1_0, .slice A1_1 l1_1.length c1_1], .agg #[.string ((rd_T40 l0 x21_2).f0), .slice A337_1 ((rd_T40 l0 x21_2).f1).length c337_1]] ?_; (with_reducible refine (impl_ProbeMeet.calls k2 a1_0 _ _ l1_1 ((rd_T40 l0 x21_2).f0) _ _ ((rd_T40 l0 x21_2).f1) t339 t340 t341 t342 t343 true _ ?side1 ?side2 ?side3 ?side4 A18.out).mono ?_); (case side1 => exact Kd.C_below HR1_1.out bq); (case side2 => exact HC1_1.out); (case side3 => exact Kd.C_below HR337_1.out bq); (case side4 => exact HC337_1.out); rintro e w25 ⟨rfl, hb⟩; refine ⟨_, rfl, ?_⟩; have _ := ra (Kd.R_below (Kd.R_mono (rf (Kd.R_types HO_5.out BK338.out (by decide))) (fun _ h_ => h_.1)) hb); have _ := bb (bk BK331) hb; have _ := bb (o := .cells #[.string ((rd_T40 l0 x21_2).f0), .slice A337_1 ((rd_T40 l0 x21_2).f1).length c337_1] 40 (0, 0)) (bp BK338) hb; have _ := bs hb; clear HO_5 BK331 BK338 HB; rename_i HO_5 BK331 BK338 HB; (try clear hb); (try clear hb2); (try clear hk); (try clear hi)) | ((with_reducible refine gate_dst (N := 8) rfl ?_); refine be 8 #[.string (⟨#[]⟩ : ByteArray), .string (⟨#[]⟩ : ByteArray), .int .i64 0, .int .i64 0, .int .i64 0] 49 ?_; intro gb345 hg w26 hbox hb; have _ := ra (Kd.R_below (Kd.R_elderB (rq HO_5) gb345 (Nat.le_of_eq hg.symm)) hb); have _ := bb (bk BK331) hb; have _ := bb (bk BK338) hb; have _ := bs hb; have _ := ra (hbox); have _ := bz (w0 := w) hg; have _ := bz (w0 := w) hg; have _ := bn hg (bk BK331); have _ := bm hg (bk BK331); have _ := bn hg (bk BK338); have _ := bm hg (bk BK338); clear HO_5 BK331 BK338 HB; rename_i HO_5 BK331 BK338 HB BK345 GW345 GE345 NB331_345 NB345_331 NB338_345 NB345_338; clear hb hbox hg; have hnb27 := NB345_331.out; have hnc27 := NB331_345.out; have hnb28 := NB345_338.out; have hnc28 := NB338_345.out; obtain ⟨hcz29_0, hcz29_1, hcz29_2, hcz29_3, hcz29_4, hfz29_0, hfz29_1, hfz29_2, hfz29_3, hfz29_4⟩ := zc5 BK345; obtain ⟨hcz30_0, hcz30_1, hfz30_0, hfz30_1⟩ := zc2 BK338; obtain ⟨hcz31_0, hcz31_1, hfz31_0, hfz31_1⟩ := zc2 BK331))
           go_roundg k2
           case measure => have := HJ2.out; have := HK2.out; omega
           case rel => exact ⟨(x5_2), (wrap64 (x21_2 + 1)), rs, H', ⟨by have := HJ2.out; have := HK2.out; omega⟩, ⟨by (with_reducible repeat (first | apply Kd.R_alloc | apply Kd.R_drewN | apply Kd.R_drew)); exact Kd.R_mono (rf (Kd.R_mono HO_5.out (fun k_ hk => (⟨hk, hk.2⟩ : _ ∧ k_ ≠ gb345)))) (fun _ hk => trivial)⟩, ⟨bk BK331⟩, ⟨bq⟩⟩
          ·rw [if_neg c20] at H
           have c20b0 : (((rd_T40 l0 x21_2).f0).toList == a1_0.toList) = false := beq_eq_false_iff_ne.mpr c20
           have c20b1 : (((rd_T40 l0 x21_2).f0).toList != a1_0.toList) = true := bne_iff_ne.mpr c20
           by_cases c32 : x5_2.length < 2513169434916
           ·rw [if_pos c32] at H
            have LMc32 := Aside0.mk c32
            clear c32
            obtain ⟨y346, hy_⟩ : ∃ y_ : List (S49), y_ = (x5_2 ++ [(⟨t339, t340, t341, t342, t343⟩ : S49)]) := ⟨_, rfl⟩
            replace H : (impl_ProbeWith.l0 k2 y346 l0 (l0.length : Int) (wrap64 (x21_2 + 1)) a1_0 l1_1) = some r := yh
            have Ny346 := ra hy_
            clear hy_
            have H' := Aside0.mk H
            clear H
            have p337 : 0 ≤ (x21_2 : Int) := od
            have q337 : x21_2 < (l0.length : Int) := od
            obtain ⟨ad337, A337_1, c337_1, e337, hx337_0, hx337_1, hl337_1, hi337_1⟩ := at_T40 HR0.out x21_2 p337 q337
            cases e337
            replace hx337_0 := hc HB hx337_0
            replace hx337_1 := hc HB hx337_1
            have HR337_1 := Aside0.mk hi337_1
            have HC337_1 := Aside0.mk hl337_1
            clear hi337_1 hl337_1
            replace p337 := eq_true p337
            replace q337 := eq_true q337
            go_wp2_with (first | ((with_reducible refine gate_dst (N := 7) rfl ?_); refine be 7 #[.string (⟨#[]⟩ : ByteArray), .slice none 0 0] 40 ?_; intro gb338 hg w33 hbox hb; have _ := ra (Kd.R_below (rq HO_5) hb); have _ := bb (bk BK331) hb; have _ := bs hb; have _ := ra (hbox); have _ := bz (w0 := w) hg; have _ := bz (w0 := w) hg; have _ := bn hg (bk BK331); have _ := bm hg (bk BK331); clear HO_5 BK331 HB; rename_i HO_5 BK331 HB BK338 GW338 GE338 NB331_338 NB338_331; clear hb hbox hg; have hnb34 := NB338_331.out; have hnc34 := NB331_338.out; obtain ⟨hcz35_0, hcz35_1, hfz35_0, hfz35_1⟩ := zc2 BK338; obtain ⟨hcz36_0, hcz36_1, hfz36_0, hfz36_1⟩ := zc2 BK331) | ((with_reducible refine gate_callee (f := 46) rfl ?_); refine gl (some 28) Try.func46 #[.agg #[.string a1_0, .slice A1_1 l1_1.length c1_1], .agg #[.string ((rd_T40 l0 x21_2).f0), .slice A337_1 ((rd_T40 l0 x21_2).f1).length c337_1]] ?_; (with_reducible refine (impl_ProbeMeet.calls k2 a1_0 _ _ l1_1 ((rd_T40 l0 x21_2).f0) _ _ ((rd_T40 l0 x21_2).f1) t339 t340 t341 t342 t343 true _ ?side1 ?side2 ?side3 ?side4 A18.out).mono ?_); (case side1 => exact Kd.C_below HR1_1.out bq); (case side2 => exact HC1_1.out); (case side3 => exact Kd.C_below HR337_1.out bq); (case side4 => exact HC337_1.out); rintro e w37 ⟨rfl, hb⟩; refine ⟨_, rfl, ?_⟩; have _ := ra (Kd.R_below (Kd.R_mono (rf (Kd.R_types HO_5.out BK338.out (by decide))) (fun _ h_ => h_.1)) hb); have _ := bb (bk BK331) hb; have _ := bb (o := .cells #[.string ((rd_T40 l0 x21_2).f0), .slice A337_1 ((rd_T40 l0 x21_2).f1).length c337_1] 40 (0, 0)) (bp BK338) hb; have _ := bs hb; clear HO_5 BK331 BK338 HB; rename_i HO_5 BK331 BK338 HB; (try clear hb); (try clear hb2); (try clear hk); (try clear hi)) | ((with_reducible refine gate_dst (N := 8) rfl ?_); refine be 8 #[.string (⟨#[]⟩ : ByteArray), .string (⟨#[]⟩ : ByteArray), .int .i64 0, .int .i64 0, .int .i64 0] 49 ?_; intro gb345 hg w38 hbox hb; have _ := ra (Kd.R_below (Kd.R_elderB (rq HO_5) gb345 (Nat.le_of_eq hg.symm)) hb); have _ := bb (bk BK331) hb; have _ := bb (bk BK338) hb; have _ := bs hb; have _ := ra (hbox); have _ := bz (w0 := w) hg; have _ := bz (w0 := w) hg; have _ := bn hg (bk BK331); have _ := bm hg (bk BK331); have _ := bn hg (bk BK338); have _ := bm hg (bk BK338); clear HO_5 BK331 BK338 HB; rename_i HO_5 BK331 BK338 HB BK345 GW345 GE345 NB331_345 NB345_331 NB338_345 NB345_338; clear hb hbox hg; have hnb39 := NB345_331.out; have hnc39 := NB331_345.out; have hnb40 := NB345_338.out; have hnc40 := NB338_345.out; obtain ⟨hcz41_0, hcz41_1, hcz41_2, hcz41_3, hcz41_4, hfz41_0, hfz41_1, hfz41_2, hfz41_3, hfz41_4⟩ := zc5 BK345; obtain ⟨hcz42_0, hcz42_1, hfz42_0, hfz42_1⟩ := zc2 BK338; obtain ⟨hcz43_0, hcz43_1, hfz43_0, hfz43_1⟩ := zc2 BK331) | ((with_reducible refine gate_builtin (b := .append) (xs := #[.tmp 39, .tmp 41]) rfl ?_); at_builtin; refine Kd.R_append k49 (w0 := w) w.heap.size rfl (.tmp 39) (.tmp 41) 24 49 (.agg #[(.string ⟨#[]⟩), (.string ⟨#[]⟩), (.int .i64 0), (.int .i64 0), (.int .i64 0)]) 56 rfl Try.underlying24 info49 rfl (by decide) (by omega) u5 x5_2 (⟨t339, t340, t341, t342, t343⟩ : S49) [.string t339, .string t340, .int .i64 t341, .int .i64 t342, .int .i64 t343] (fun k_ => k_ ≠ gb345) (fun _ => False) rfl (by first | (go_simp; done) | (go_simp; rfl)) ?aP (fun _ hk => hk.elim) ?aF ?aO ?aB ?aS ?aL ?_; (case aP => exact k49_mkM _ _ _ (⟨t339, t340, t341, t342, t343⟩ : S49)); (case aB => exact bq); (case aF => exact (fun k_ hk => Kd.freshB (g := gb345) (o := .cells #[.string t339, .string t340, .int .i64 t341, .int .i64 t342, .int .i64 t343] 49 (0, 0)) (bp BK345) k_ hk)); (case aO => exact (by (with_reducible repeat (first | apply Kd.R_alloc | apply Kd.R_drewN | apply Kd.R_drew)); exact Kd.R_mono (rf (Kd.R_mono HO_5.out (fun k_ hk => (⟨hk, hk.2⟩ : _ ∧ k_ ≠ gb345)))) (fun _ hk => hk.1.2))); (case aS => exact (below_size bq)); (case aL => have := LMc32.out; omega); intro v347 w44 ho hb hg hat; rw [← Ny346.out] at ho; have _ := ra (blk_grown (g := gb331) (o := .cells #[.string a1_0, .slice A1_1 l1_1.length c1_1] 40 (0, 0)) (bk BK331) hg (Kd.R_ne HO_5.out BK331.out (by decide))); have _ := ra (blk_grown (g := gb338) (o := .cells #[.string ((rd_T40 l0 x21_2).f0), .slice A337_1 ((rd_T40 l0 x21_2).f1).length c337_1] 40 (0, 0)) (bk BK338) hg (Kd.R_ne HO_5.out BK338.out (by decide))); have _ := ra (blk_grown (g := gb345) (o := .cells #[.string t339, .string t340, .int .i64 t341, .int .i64 t342, .int .i64 t343] 49 (0, 0)) (bp BK345) hg (Kd.R_away HO_5.out (fun _ hk => hk.2))); have _ := ra (hb); have _ := ra (ho); clear BK331 BK338 BK345 HB HO_5; rename_i BK331 BK338 BK345 HB HO348; clear ho hb hg hat))
            go_roundg k2
            case measure => have := HJ2.out; have := HK2.out; omega
            case rel => exact ⟨(y346), (wrap64 (x21_2 + 1)), rs, H', ⟨by have := HJ2.out; have := HK2.out; omega⟩, ⟨by (with_reducible repeat (first | apply Kd.R_alloc | apply Kd.R_drewN | apply Kd.R_drew)); exact Kd.R_mono HO348.out (fun _ hk => trivial)⟩, ⟨bk BK331⟩, ⟨bq⟩⟩
           ·rw [if_neg c32] at H
            exact absurd H (by simp)
         ·replace c19 := Bool.eq_false_iff.mpr c19
          subst c19
          have H1 : (impl_ProbeWith.l0 k2 x5_2 l0 (l0.length : Int) (wrap64 (x21_2 + 1)) a1_0 l1_1) = some r := by rw [if_neg (show ¬ (false = true) by decide)] at H; exact H
          clear H
          have H := H1
          clear H1
          have H' := Aside0.mk H
          clear H
          have p337 : 0 ≤ (x21_2 : Int) := od
          have q337 : x21_2 < (l0.length : Int) := od
          obtain ⟨ad337, A337_1, c337_1, e337, hx337_0, hx337_1, hl337_1, hi337_1⟩ := at_T40 HR0.out x21_2 p337 q337
          cases e337
          replace hx337_0 := hc HB hx337_0
          replace hx337_1 := hc HB hx337_1
          have HR337_1 := Aside0.mk hi337_1
          have HC337_1 := Aside0.mk hl337_1
          clear hi337_1 hl337_1
          replace p337 := eq_true p337
          replace q337 := eq_true q337
          go_wp2_with (first | ((with_reducible refine gate_dst (N := 7) rfl ?_); refine be 7 #[.string (⟨#[]⟩ : ByteArray), .slice none 0 0] 40 ?_; intro gb338 hg w45 hbox hb; have _ := ra (Kd.R_below (rq HO_5) hb); have _ := bb (bk BK331) hb; have _ := bs hb; have _ := ra (hbox); have _ := bz (w0 := w) hg; have _ := bz (w0 := w) hg; have _ := bn hg (bk BK331); have _ := bm hg (bk BK331); clear HO_5 BK331 HB; rename_i HO_5 BK331 HB BK338 GW338 GE338 NB331_338 NB338_331; clear hb hbox hg; have hnb46 := NB338_331.out; have hnc46 := NB331_338.out; obtain ⟨hcz47_0, hcz47_1, hfz47_0, hfz47_1⟩ := zc2 BK338; obtain ⟨hcz48_0, hcz48_1, hfz48_0, hfz48_1⟩ := zc2 BK331) | ((with_reducible refine gate_callee (f := 46) rfl ?_); refine gl (some 28) Try.func46 #[.agg #[.string a1_0, .slice A1_1 l1_1.length c1_1], .agg #[.string ((rd_T40 l0 x21_2).f0), .slice A337_1 ((rd_T40 l0 x21_2).f1).length c337_1]] ?_; (with_reducible refine (impl_ProbeMeet.calls k2 a1_0 _ _ l1_1 ((rd_T40 l0 x21_2).f0) _ _ ((rd_T40 l0 x21_2).f1) t339 t340 t341 t342 t343 false _ ?side1 ?side2 ?side3 ?side4 A18.out).mono ?_); (case side1 => exact Kd.C_below HR1_1.out bq); (case side2 => exact HC1_1.out); (case side3 => exact Kd.C_below HR337_1.out bq); (case side4 => exact HC337_1.out); rintro e w49 ⟨rfl, hb⟩; refine ⟨_, rfl, ?_⟩; have _ := ra (Kd.R_below (Kd.R_mono (rf (Kd.R_types HO_5.out BK338.out (by decide))) (fun _ h_ => h_.1)) hb); have _ := bb (bk BK331) hb; have _ := bb (o := .cells #[.string ((rd_T40 l0 x21_2).f0), .slice A337_1 ((rd_T40 l0 x21_2).f1).length c337_1] 40 (0, 0)) (bp BK338) hb; have _ := bs hb; clear HO_5 BK331 BK338 HB; rename_i HO_5 BK331 BK338 HB; (try clear hb); (try clear hb2); (try clear hk); (try clear hi)) | ((with_reducible refine gate_dst (N := 8) rfl ?_); refine be 8 #[.string (⟨#[]⟩ : ByteArray), .string (⟨#[]⟩ : ByteArray), .int .i64 0, .int .i64 0, .int .i64 0] 49 ?_; intro gb345 hg w50 hbox hb; have _ := ra (Kd.R_below (Kd.R_elderB (rq HO_5) gb345 (Nat.le_of_eq hg.symm)) hb); have _ := bb (bk BK331) hb; have _ := bb (bk BK338) hb; have _ := bs hb; have _ := ra (hbox); have _ := bz (w0 := w) hg; have _ := bz (w0 := w) hg; have _ := bn hg (bk BK331); have _ := bm hg (bk BK331); have _ := bn hg (bk BK338); have _ := bm hg (bk BK338); clear HO_5 BK331 BK338 HB; rename_i HO_5 BK331 BK338 HB BK345 GW345 GE345 NB331_345 NB345_331 NB338_345 NB345_338; clear hb hbox hg; have hnb51 := NB345_331.out; have hnc51 := NB331_345.out; have hnb52 := NB345_338.out; have hnc52 := NB338_345.out; obtain ⟨hcz53_0, hcz53_1, hcz53_2, hcz53_3, hcz53_4, hfz53_0, hfz53_1, hfz53_2, hfz53_3, hfz53_4⟩ := zc5 BK345))
          go_roundg k2
          case measure => have := HJ2.out; have := HK2.out; omega
          case rel => exact ⟨(x5_2), (wrap64 (x21_2 + 1)), rs, H', ⟨by have := HJ2.out; have := HK2.out; omega⟩, ⟨by (with_reducible repeat (first | apply Kd.R_alloc | apply Kd.R_drewN | apply Kd.R_drew)); exact Kd.R_mono (rf (Kd.R_mono HO_5.out (fun k_ hk => (⟨hk, hk.2⟩ : _ ∧ k_ ≠ gb345)))) (fun _ hk => trivial)⟩, ⟨bk BK331⟩, ⟨bq⟩⟩
        ·rw [if_neg c17] at H
         exact absurd H (by simp)
       ·rw [if_neg c16] at H
        exact absurd H (by simp)
      ·rw [if_neg c15] at H
       have c15b0 : decide (x21_2 < (l0.length : Int)) = false := decide_eq_false c15
       clear c15
       obtain rfl := Option.some.inj H
       go_wp2
       go_ret
       exact ⟨_, re, rq HO_5, bq⟩
attribute [local go_sem high] eqA49
set_option maxHeartbeats 8000000 in
set_option maxRecDepth 100000 in
theorem impl_ProbeFree.calls (k : Nat) (A0 : Option Addr) (c0 : Nat) (l0 : List (S40)) (a1_0 : ByteArray) (A1_1 : Option Addr) (c1_1 : Nat) (l1_1 : List (S95)) (r : Bool) (w : World) (hr0 : Kd.C k40 w A0 l0.length l0) (hc0 : l0.length ≤ c0) (hr1_1 : Kd.C k95 w A1_1 l1_1.length l1_1) (hc1_1 : l1_1.length ≤ c1_1) (h : impl_ProbeFree.f k l0 a1_0 l1_1 = some r) :
  Calls Try.prog 28 #[.slice A0 l0.length c0, .agg #[.string a1_0, .slice A1_1 l1_1.length c1_1]] w fun e w' => e = .returned (.bool r) ∧ Below w.heap.size w w' := by
 have hu40 := Try.underlying40
 have HR0 := Aside0.mk hr0
 have HC0 := Aside0.mk hc0
 clear hr0 hc0
 have HR1_1 := Aside0.mk hr1_1
 have HC1_1 := Aside0.mk hc1_1
 clear hr1_1 hc1_1
 have HB := ra (Below.refl w.heap.size w)
 have H : ((impl_ProbeSkyOk.f k l0).bind fun t633 => (if t633 = true then ((impl_ProbeTubeOk.f k a1_0 l1_1).bind fun t634 => (if t634 = true then ((impl_ProbeWith.f k l0 a1_0 l1_1).bind fun t635 => (some ((t635.length : Int) == 0))) else (some false))) else (some false))) = some r := h
 clear h
 obtain ⟨t633, A3, H⟩ := bo H
 by_cases c4 : t633 = true
 ·subst c4
  replace H := it H rfl
  obtain ⟨t634, A5, H⟩ := bo H
  by_cases c6 : t634 = true
  ·subst c6
   replace H := it H rfl
   obtain ⟨t635, A7, H⟩ := bo H
   obtain rfl := Option.some.inj H
   go_enter Try.func28, Try.ntmps28
   go_wp2_with (first | ((with_reducible refine gate_dst (N := 3) rfl ?_); (try (refine gate_guard (by rfl) ?_; dsimp only)); refine be 3 #[.string a1_0, .slice A1_1 l1_1.length c1_1] 40 ?_; intro gb632 hg w8 hbox hb; have _ := bs hb; have _ := ra (hbox); have _ := bz (w0 := w) hg; have _ := bz (w0 := w) hg; clear HB; rename_i HB BK632 GW632 GE632; clear hb hbox hg) | ((with_reducible refine gate_callee (f := 26) rfl ?_); refine gl (some 6) Try.func26 #[.slice A0 l0.length c0] ?_; (with_reducible refine (impl_ProbeSkyOk.calls k _ _ l0 true _ ?side1 ?side2 A3.out).mono ?_); (case side1 => exact sc HR0); (case side2 => exact HC0.out); rintro e w9 ⟨rfl, hb⟩; refine ⟨_, rfl, ?_⟩; have _ := bb (bk BK632) hb; have _ := bs hb; clear BK632 HB; rename_i BK632 HB; (try clear hb); (try clear hb2); (try clear hk); (try clear hi); obtain ⟨hcz10_0, hcz10_1, hfz10_0, hfz10_1⟩ := zc2 BK632) | (go_at_call 54; (with_reducible refine (impl_ProbeTubeOk.calls k a1_0 _ _ l1_1 true _ ?side1 ?side2 A5.out).mono ?_); (case side1 => exact sc HR1_1); (case side2 => exact HC1_1.out); rintro e w11 ⟨rfl, hb⟩; have _ := bb (bk BK632) hb; have _ := bs hb; clear BK632 HB; rename_i BK632 HB; (try clear hb); (try clear hb2); (try clear hk); (try clear hi); obtain ⟨hcz12_0, hcz12_1, hfz12_0, hfz12_1⟩ := zc2 BK632) | (go_at_call 21; (with_reducible refine (impl_ProbeWith.calls k _ _ l0 a1_0 _ _ l1_1 t635 _ ?side1 ?side2 ?side3 ?side4 A7.out).mono ?_); (case side1 => exact sc HR0); (case side2 => exact HC0.out); (case side3 => exact sc HR1_1); (case side4 => exact HC1_1.out); rintro e w13 ⟨v636, rfl, ho0, hb⟩; have _ := ra (Kd.R_lower ho0 (below_size bq)); have _ := bb (bk BK632) hb; have _ := bs hb; clear BK632 HB; rename_i HO637 BK632 HB; (try clear hb); (try clear hb2); (try clear hk); (try clear hi); (try clear ho0); obtain ⟨Ao14, co14, eo14⟩ := Kd.R_slice HO637.out; subst eo14))
   go_ret
   exact ⟨re, bq⟩
  ·replace c6 := Bool.eq_false_iff.mpr c6
   subst c6
   have H1 : (some false) = some r := by rw [if_neg (show ¬ (false = true) by decide)] at H; exact H
   clear H
   have H := H1
   clear H1
   obtain rfl := Option.some.inj H
   go_enter Try.func28, Try.ntmps28
   go_wp2_with (first | ((with_reducible refine gate_dst (N := 3) rfl ?_); (try (refine gate_guard (by rfl) ?_; dsimp only)); refine be 3 #[.string a1_0, .slice A1_1 l1_1.length c1_1] 40 ?_; intro gb632 hg w15 hbox hb; have _ := bs hb; have _ := ra (hbox); have _ := bz (w0 := w) hg; have _ := bz (w0 := w) hg; clear HB; rename_i HB BK632 GW632 GE632; clear hb hbox hg) | ((with_reducible refine gate_callee (f := 26) rfl ?_); refine gl (some 6) Try.func26 #[.slice A0 l0.length c0] ?_; (with_reducible refine (impl_ProbeSkyOk.calls k _ _ l0 true _ ?side1 ?side2 A3.out).mono ?_); (case side1 => exact sc HR0); (case side2 => exact HC0.out); rintro e w16 ⟨rfl, hb⟩; refine ⟨_, rfl, ?_⟩; have _ := bb (bk BK632) hb; have _ := bs hb; clear BK632 HB; rename_i BK632 HB; (try clear hb); (try clear hb2); (try clear hk); (try clear hi); obtain ⟨hcz17_0, hcz17_1, hfz17_0, hfz17_1⟩ := zc2 BK632) | (go_at_call 54; (with_reducible refine (impl_ProbeTubeOk.calls k a1_0 _ _ l1_1 false _ ?side1 ?side2 A5.out).mono ?_); (case side1 => exact sc HR1_1); (case side2 => exact HC1_1.out); rintro e w18 ⟨rfl, hb⟩; have _ := bb (bk BK632) hb; have _ := bs hb; clear BK632 HB; rename_i BK632 HB; (try clear hb); (try clear hb2); (try clear hk); (try clear hi)))
   go_ret
   exact ⟨re, bq⟩
 ·replace c4 := Bool.eq_false_iff.mpr c4
  subst c4
  have H1 : (some false) = some r := by rw [if_neg (show ¬ (false = true) by decide)] at H; exact H
  clear H
  have H := H1
  clear H1
  obtain rfl := Option.some.inj H
  go_enter Try.func28, Try.ntmps28
  go_wp2_with (first | ((with_reducible refine gate_dst (N := 3) rfl ?_); (try (refine gate_guard (by rfl) ?_; dsimp only)); refine be 3 #[.string a1_0, .slice A1_1 l1_1.length c1_1] 40 ?_; intro gb632 hg w19 hbox hb; have _ := bs hb; have _ := ra (hbox); have _ := bz (w0 := w) hg; have _ := bz (w0 := w) hg; clear HB; rename_i HB BK632 GW632 GE632; clear hb hbox hg) | ((with_reducible refine gate_callee (f := 26) rfl ?_); refine gl (some 6) Try.func26 #[.slice A0 l0.length c0] ?_; (with_reducible refine (impl_ProbeSkyOk.calls k _ _ l0 false _ ?side1 ?side2 A3.out).mono ?_); (case side1 => exact sc HR0); (case side2 => exact HC0.out); rintro e w20 ⟨rfl, hb⟩; refine ⟨_, rfl, ?_⟩; have _ := bb (bk BK632) hb; have _ := bs hb; clear BK632 HB; rename_i BK632 HB; (try clear hb); (try clear hb2); (try clear hk); (try clear hi)))
  go_ret
  exact ⟨re, bq⟩
end Go.Proofs.Ytdbomnhdpniigaa.PA
