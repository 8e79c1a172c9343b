/- Contracts of the functions impl_ProbeSkyOk. (Began as a print of the kit's tool.) -/
import Derived.Test.YtdbomnhdpniigaaPAd
import Derived.Test.YtdbomnhdpniigaaCx
import Derived.Test.YtdbomnhdpniigaaGBase
namespace Go.Proofs.Ytdbomnhdpniigaa.PA
open Go.RowKit Go.Proofs.YtdbomnhdpniigaaW.PrintWords Go.Proofs.YtdbomnhdpniigaaW.PrintLast Go.Proofs.YtdbomnhdpniigaaW.PrintMore Go.Proofs.Ytdbomnhdpniigaa.Z
attribute [local go_sem] max2_int min2_int max_two min_two max_three min_three max_four min_four
set_option linter.unusedVariables false
set_option linter.unusedSimpArgs false
def impl_ProbeSkyOk.T6 : Bool × List (List Nat × List Nat) := (true, [([], []), ([0], [0]), ([1], [1]), ([2, 1], [2]), ([3], [3]), ([4, 3], [3, 4]), ([5, 3, 3], [3, 5]), ([6], [6]), ([6], [6]), ([8, 6], [6, 8]), ([7, 9, 6], [6, 7, 9]), ([10, 6], [6, 10]), ([11, 6], [6, 11]), ([6], [6]), ([13, 6], [6, 13]), ([12, 14, 6], [6, 12, 14]), ([6, 15, 3], [3, 6, 15]), ([3, 16], [3, 16])])
def impl_ProbeSkyOk.B6 : List Nat := [0, 1, 3, 7, 15, 31, 63, 127, 127, 383, 1023, 2047, 4095, 127, 8319, 32767, 65535, 131071]
theorem impl_ProbeSkyOk.tab6 : rtab .any (opsOf Try.f26 6) = impl_ProbeSkyOk.T6 := by kernel_rfl
theorem impl_ProbeSkyOk.bits6 : waitsOk impl_ProbeSkyOk.T6.2 impl_ProbeSkyOk.B6 = true := by kernel_rfl
set_option maxHeartbeats 8000000 in
set_option maxRecDepth 100000 in
theorem impl_ProbeSkyOk.calls (k : Nat) (A0 : Option Addr) (c0 : Nat) (l0 : List (S40)) (r : Bool) (w : World) (hr0 : Kd.C k40 w A0 l0.length l0) (hc0 : l0.length ≤ c0) (h : impl_ProbeSkyOk.f k l0 = some r) :
  Calls Try.prog 26 #[.slice A0 l0.length c0] w fun e w' => e = .returned (.bool r) ∧ Below w.heap.size w w' := by
 have hu40 := Try.underlying40
 have HR0 := Aside0.mk hr0
 have HC0 := Aside0.mk hc0
 clear hr0 hc0
 have HB := ra (Below.refl w.heap.size w)
 have H : (if (l0.length : Int) > 24 then (some false) else (impl_ProbeSkyOk.l0 k l0 l0 (l0.length : Int) 0)) = some r := h
 clear h
 by_cases c2 : (l0.length : Int) > 24
 ·rw [if_pos c2] at H
  have c2b0 : decide (24 < (l0.length : Int)) = true := decide_eq_true c2
  have c2b1 : decide (24 < l0.length) = true := decide_eq_true (by omega)
  clear c2
  obtain rfl := Option.some.inj H
  go_enter Try.func26, Try.ntmps26
  go_wp2
  go_ret
  exact ⟨re, bq⟩
 ·rw [if_neg c2] at H
  have c2b0 : decide (24 < (l0.length : Int)) = false := decide_eq_false c2
  have c2b1 : decide (24 < l0.length) = false := decide_eq_false (by omega)
  clear c2
  have H' := Aside0.mk H
  clear H
  go_enter Try.func26, Try.ntmps26
  go_wp2
  go_loopg [10] k (fun kq v10 w' => ∃ (x10_1 : Int), v10 = .int .i64 x10_1 ∧ Aside0 (impl_ProbeSkyOk.l0 kq l0 l0 (l0.length : Int) x10_1 = some r) ∧ Aside0 (kq ≤ k) ∧ Aside0 (Below w.heap.size w w'))
  case atStart => exact ⟨(0), rs, H', ⟨Nat.le_refl _⟩, ⟨bq⟩⟩
  case round =>
   clear H'
   try clear c2
   try clear c2b0
   try clear c2b1
   obtain ⟨x10_1, rfl, HA, HK1, HB⟩ := hrel
   cases gk with
   | zero => exact absurd HA.out (by simp [impl_ProbeSkyOk.l0])
   | succ k1 =>
    have H := HA.out
    clear HA
    simp only [impl_ProbeSkyOk.l0] at H
    by_cases c3 : x10_1 < (l0.length : Int)
    ·rw [if_pos c3] at H
     have c3b0 : decide (x10_1 < (l0.length : Int)) = true := decide_eq_true c3
     clear c3
     by_cases c4 : 0 ≤ x10_1
     ·rw [if_pos c4] at H
      have c4b0 : decide (0 ≤ x10_1) = true := decide_eq_true c4
      clear c4
      by_cases c5 : x10_1 < (l0.length : Int)
      ·rw [if_pos c5] at H
       have c5b0 : decide (x10_1 < (l0.length : Int)) = true := decide_eq_true c5
       clear c5
       obtain ⟨t186, A6, H⟩ := bo H
       by_cases c7 : t186 = true
       ·subst c7
        replace H := it H rfl
        by_cases c8 : x10_1 > 0
        ·rw [if_pos c8] at H
         have c8b0 : decide (0 < x10_1) = true := decide_eq_true c8
         clear c8
         obtain ⟨ji9, hji9⟩ : ∃ j_ : Int, (wrap64 (x10_1 - 1)) = j_ := ⟨_, rfl⟩
         replace H : (if 0 ≤ (ji9) then (if (ji9) < (l0.length : Int) then (if ((Op.bytesLess (((rd_T40 l0 (ji9)).f0).toList) (((rd_T40 l0 x10_1).f0).toList)) = true) then (impl_ProbeSkyOk.l0 k1 l0 l0 (l0.length : Int) (wrap64 (x10_1 + 1))) else (some false)) else (none)) else (none)) = some r := by first | (rw [hji9] at H; exact H) | (simp only [hji9] at H ⊢; exact H)
         (try rw [hji9] at A6)
         have hji9w : (IntKind.i64.wrap (x10_1 - 1)) = ji9 := (i64_w _).trans hji9
         by_cases c10 : 0 ≤ (ji9)
         ·rw [if_pos c10] at H
          have c10b0 : decide (0 ≤ (ji9)) = true := decide_eq_true c10
          clear c10
          by_cases c11 : (ji9) < (l0.length : Int)
          ·rw [if_pos c11] at H
           have c11b0 : decide ((ji9) < (l0.length : Int)) = true := decide_eq_true c11
           clear c11
           by_cases c12 : ((Op.bytesLess (((rd_T40 l0 (ji9)).f0).toList) (((rd_T40 l0 x10_1).f0).toList)) = true)
           ·rw [if_pos c12] at H
            have c12b0 : (Op.bytesLess (((rd_T40 l0 (ji9)).f0).toList) (((rd_T40 l0 x10_1).f0).toList)) = true := c12
            clear c12
            have H' := Aside0.mk H
            clear H
            have p184 : 0 ≤ (x10_1 : Int) := od
            have q184 : x10_1 < (l0.length : Int) := od
            obtain ⟨ad184, A184_1, c184_1, e184, hx184_0, hx184_1, hl184_1, hi184_1⟩ := at_T40 HR0.out x10_1 p184 q184
            cases e184
            replace hx184_0 := hc HB hx184_0
            replace hx184_1 := hc HB hx184_1
            have HR184_1 := Aside0.mk hi184_1
            have HC184_1 := Aside0.mk hl184_1
            clear hi184_1 hl184_1
            replace p184 := eq_true p184
            replace q184 := eq_true q184
            try go_wp2_with (first | ((with_reducible refine gate_dst (N := 4) rfl ?_); refine be 4 #[.string (⟨#[]⟩ : ByteArray), .slice none 0 0] 40 ?_; intro gb185 hg w13 hbox hb; have _ := bs hb; have _ := ra (hbox); have _ := bz (w0 := w) hg; have _ := bz (w0 := w) hg; clear HB; rename_i HB BK185 GW185 GE185; clear hb hbox hg; obtain ⟨hcz14_0, hcz14_1, hfz14_0, hfz14_1⟩ := zc2 BK185))
            have n0 : Aside0 (((w13.setCell ⟨gb185, 0, none⟩ (.string ((rd_T40 l0 x10_1).f0))).setCell ⟨gb185, 1, none⟩ (.slice A184_1 ((rd_T40 l0 x10_1).f1).length c184_1)).heap[gb185]? = some (.cells #[.string ((rd_T40 l0 x10_1).f0), .slice A184_1 ((rd_T40 l0 x10_1).f1).length c184_1] 40 (0, 0))) := ⟨bp BK185⟩
            have n1 : Aside0 (Below w.heap.size w ((w13.setCell ⟨gb185, 0, none⟩ (.string ((rd_T40 l0 x10_1).f0))).setCell ⟨gb185, 1, none⟩ (.slice A184_1 ((rd_T40 l0 x10_1).f1).length c184_1))) := ⟨bq⟩
            (try clear BK185)
            (try clear HB)
            generalize ((w13.setCell ⟨gb185, 0, none⟩ (.string ((rd_T40 l0 x10_1).f0))).setCell ⟨gb185, 1, none⟩ (.slice A184_1 ((rd_T40 l0 x10_1).f1).length c184_1)) = w15 at n0 n1 ⊢
            have BK185 := n0
            have HB := n1
            clear n0 n1
            have _ := ra (blk_drew BK185.out)
            have _ := ra (below_drew1 HB.out)
            clear BK185 HB
            rename_i BK185 HB
            have p187 : 0 ≤ ((ji9) : Int) := od
            have q187 : (ji9) < (l0.length : Int) := od
            obtain ⟨ad187, A187_1, c187_1, e187, hx187_0, hx187_1, hl187_1, hi187_1⟩ := at_T40 HR0.out (ji9) p187 q187
            have hw187_1 := hx187_1
            have hw187_0 := hx187_0
            obtain rfl : ad184 = ad187 := (by injection e187)
            replace hx187_0 := hc HB hx187_0
            replace hx187_1 := hc HB hx187_1
            have HR187_1 := Aside0.mk hi187_1
            have HC187_1 := Aside0.mk hl187_1
            clear hi187_1 hl187_1
            replace p187 := eq_true p187
            replace q187 := eq_true q187
            refine start_ (n := 18) (S := fun w' => w'.cell? ⟨gb185, 0, none⟩ = some (.string ((rd_T40 l0 x10_1).f0)) ∧ w'.cell? ⟨gb185, 1, none⟩ = some (.slice A184_1 ((rd_T40 l0 x10_1).f1).length c184_1) ∧ w'.cell? (ad184.add (((ji9)).toNat * 2)) = some (.string ((rd_T40 l0 (ji9)).f0)) ∧ w'.cell? ⟨(ad184.add (((ji9)).toNat * 2)).block, (ad184.add (((ji9)).toNat * 2)).off + 1, none⟩ = some (.slice A187_1 ((rd_T40 l0 (ji9)).f1).length c187_1)) (ds := []) (bl 18 0) (by kernel_rfl) rfl rfl ⟨(blk_cell BK185.out 0).trans rfl, (blk_cell BK185.out 1).trans rfl, (hc HB hw187_0), (hc HB hw187_1)⟩ (fun hHeld => ?_); refine with_tabW impl_ProbeSkyOk.tab6 impl_ProbeSkyOk.bits6 (fun HT_ HW_ => ?_)
            generalize w15.drew = w16 at BK185 HB HR187_1 hx187_0 hx187_1 hHeld ⊢
            refine tk 0 15 (bl 18 1) ?_ hHeld
            refine oe 1 16 (bl 18 3) (fun K hK => ?_)
            refine gs Try.func54 #[.agg #[.string ((rd_T40 l0 x10_1).f0), .slice A184_1 ((rd_T40 l0 x10_1).f1).length c184_1]] ?_
            with_reducible refine (impl_ProbeTubeOk.calls k1 ((rd_T40 l0 x10_1).f0) _ _ ((rd_T40 l0 x10_1).f1) true _ ?side1 ?side2 A6.out).mono ?_
            (case side1 => exact sc HR184_1)
            (case side2 => exact HC184_1.out)
            rintro e w17 ⟨rfl, hb⟩
            refine ⟨_, rfl, ?_⟩
            have _ := bb (bk BK185) hb
            have _ := bs hb
            clear BK185 HB
            rename_i BK185 HB
            (try clear hb)
            (try clear hb2)
            (try clear hk)
            (try clear hi)
            refine hK.out _ _ ⟨(blk_cell BK185.out 0).trans rfl, (blk_cell BK185.out 1).trans rfl, (hc HB hw187_0), (hc HB hw187_1)⟩ (fun hHeld => ?_)
            clear hK K
            refine nm 16 ?_
            refine pu 2 17 (bl 18 7) ?_
            refine pu 3 18 (bl 18 15) ?_
            refine pu 4 19 (bl 18 31) ?_
            refine pu 5 20 (bl 18 63) ?_
            refine pu 6 21 (bl 18 127) ?_
            refine pu 7 22 (bl 18 255) ?_
            refine pu 8 23 (bl 18 511) ?_
            refine pu 9 24 (bl 18 1023) ?_
            refine pu 10 25 (bl 18 2047) ?_
            refine pu 11 26 (bl 18 4095) ?_
            refine pu 13 28 (bl 18 12287) ?_
            refine tk 12 27 (bl 18 16383) ?_ hHeld
            refine tk 14 29 (bl 18 32767) ?_ hHeld
            refine pu 15 30 (bl 18 65535) ?_
            refine pu 16 31 (bl 18 131071) ?_
            refine pu 17 32 (bl 18 262143) ?_
            refine done_ (done_of HT_.out (by kernel_rfl)) ?_
            try go_wp2
            go_roundg k1
            case measure => have := HK1.out; omega
            case rel => exact ⟨(wrap64 (x10_1 + 1)), rs, H', ⟨by have := HK1.out; omega⟩, ⟨bq⟩⟩
           ·rw [if_neg c12] at H
            have c12b0 : (Op.bytesLess (((rd_T40 l0 (ji9)).f0).toList) (((rd_T40 l0 x10_1).f0).toList)) = false := by simpa using c12
            clear c12
            obtain rfl := Option.some.inj H
            have p184 : 0 ≤ (x10_1 : Int) := od
            have q184 : x10_1 < (l0.length : Int) := od
            obtain ⟨ad184, A184_1, c184_1, e184, hx184_0, hx184_1, hl184_1, hi184_1⟩ := at_T40 HR0.out x10_1 p184 q184
            cases e184
            replace hx184_0 := hc HB hx184_0
            replace hx184_1 := hc HB hx184_1
            have HR184_1 := Aside0.mk hi184_1
            have HC184_1 := Aside0.mk hl184_1
            clear hi184_1 hl184_1
            replace p184 := eq_true p184
            replace q184 := eq_true q184
            try go_wp2_with (first | ((with_reducible refine gate_dst (N := 4) rfl ?_); refine be 4 #[.string (⟨#[]⟩ : ByteArray), .slice none 0 0] 40 ?_; intro gb185 hg w18 hbox hb; have _ := bs hb; have _ := ra (hbox); have _ := bz (w0 := w) hg; have _ := bz (w0 := w) hg; clear HB; rename_i HB BK185 GW185 GE185; clear hb hbox hg; obtain ⟨hcz19_0, hcz19_1, hfz19_0, hfz19_1⟩ := zc2 BK185))
            have n0 : Aside0 (((w18.setCell ⟨gb185, 0, none⟩ (.string ((rd_T40 l0 x10_1).f0))).setCell ⟨gb185, 1, none⟩ (.slice A184_1 ((rd_T40 l0 x10_1).f1).length c184_1)).heap[gb185]? = some (.cells #[.string ((rd_T40 l0 x10_1).f0), .slice A184_1 ((rd_T40 l0 x10_1).f1).length c184_1] 40 (0, 0))) := ⟨bp BK185⟩
            have n1 : Aside0 (Below w.heap.size w ((w18.setCell ⟨gb185, 0, none⟩ (.string ((rd_T40 l0 x10_1).f0))).setCell ⟨gb185, 1, none⟩ (.slice A184_1 ((rd_T40 l0 x10_1).f1).length c184_1))) := ⟨bq⟩
            (try clear BK185)
            (try clear HB)
            generalize ((w18.setCell ⟨gb185, 0, none⟩ (.string ((rd_T40 l0 x10_1).f0))).setCell ⟨gb185, 1, none⟩ (.slice A184_1 ((rd_T40 l0 x10_1).f1).length c184_1)) = w20 at n0 n1 ⊢
            have BK185 := n0
            have HB := n1
            clear n0 n1
            have _ := ra (blk_drew BK185.out)
            have _ := ra (below_drew1 HB.out)
            clear BK185 HB
            rename_i BK185 HB
            have p187 : 0 ≤ ((ji9) : Int) := od
            have q187 : (ji9) < (l0.length : Int) := od
            obtain ⟨ad187, A187_1, c187_1, e187, hx187_0, hx187_1, hl187_1, hi187_1⟩ := at_T40 HR0.out (ji9) p187 q187
            have hw187_1 := hx187_1
            have hw187_0 := hx187_0
            obtain rfl : ad184 = ad187 := (by injection e187)
            replace hx187_0 := hc HB hx187_0
            replace hx187_1 := hc HB hx187_1
            have HR187_1 := Aside0.mk hi187_1
            have HC187_1 := Aside0.mk hl187_1
            clear hi187_1 hl187_1
            replace p187 := eq_true p187
            replace q187 := eq_true q187
            refine start_ (n := 18) (S := fun w' => w'.cell? ⟨gb185, 0, none⟩ = some (.string ((rd_T40 l0 x10_1).f0)) ∧ w'.cell? ⟨gb185, 1, none⟩ = some (.slice A184_1 ((rd_T40 l0 x10_1).f1).length c184_1) ∧ w'.cell? (ad184.add (((ji9)).toNat * 2)) = some (.string ((rd_T40 l0 (ji9)).f0)) ∧ w'.cell? ⟨(ad184.add (((ji9)).toNat * 2)).block, (ad184.add (((ji9)).toNat * 2)).off + 1, none⟩ = some (.slice A187_1 ((rd_T40 l0 (ji9)).f1).length c187_1)) (ds := []) (bl 18 0) (by kernel_rfl) rfl rfl ⟨(blk_cell BK185.out 0).trans rfl, (blk_cell BK185.out 1).trans rfl, (hc HB hw187_0), (hc HB hw187_1)⟩ (fun hHeld => ?_); refine with_tabW impl_ProbeSkyOk.tab6 impl_ProbeSkyOk.bits6 (fun HT_ HW_ => ?_)
            generalize w20.drew = w21 at BK185 HB HR187_1 hx187_0 hx187_1 hHeld ⊢
            refine tk 0 15 (bl 18 1) ?_ hHeld
            refine oe 1 16 (bl 18 3) (fun K hK => ?_)
            refine gs Try.func54 #[.agg #[.string ((rd_T40 l0 x10_1).f0), .slice A184_1 ((rd_T40 l0 x10_1).f1).length c184_1]] ?_
            with_reducible refine (impl_ProbeTubeOk.calls k1 ((rd_T40 l0 x10_1).f0) _ _ ((rd_T40 l0 x10_1).f1) true _ ?side1 ?side2 A6.out).mono ?_
            (case side1 => exact sc HR184_1)
            (case side2 => exact HC184_1.out)
            rintro e w22 ⟨rfl, hb⟩
            refine ⟨_, rfl, ?_⟩
            have _ := bb (bk BK185) hb
            have _ := bs hb
            clear BK185 HB
            rename_i BK185 HB
            (try clear hb)
            (try clear hb2)
            (try clear hk)
            (try clear hi)
            refine hK.out _ _ ⟨(blk_cell BK185.out 0).trans rfl, (blk_cell BK185.out 1).trans rfl, (hc HB hw187_0), (hc HB hw187_1)⟩ (fun hHeld => ?_)
            clear hK K
            refine nm 16 ?_
            refine pu 2 17 (bl 18 7) ?_
            refine pu 3 18 (bl 18 15) ?_
            refine pu 4 19 (bl 18 31) ?_
            refine pu 5 20 (bl 18 63) ?_
            refine pu 6 21 (bl 18 127) ?_
            refine pu 7 22 (bl 18 255) ?_
            refine pu 8 23 (bl 18 511) ?_
            refine pu 9 24 (bl 18 1023) ?_
            refine pu 10 25 (bl 18 2047) ?_
            refine pu 11 26 (bl 18 4095) ?_
            refine pu 13 28 (bl 18 12287) ?_
            refine tk 12 27 (bl 18 16383) ?_ hHeld
            refine tk 14 29 (bl 18 32767) ?_ hHeld
            refine pu 15 30 (bl 18 65535) ?_
            refine pu 16 31 (bl 18 131071) ?_
            refine pu 17 32 (bl 18 262143) ?_
            refine done_ (done_of HT_.out (by kernel_rfl)) ?_
            try go_wp2
            go_ret
            exact ⟨by first | rfl | (simp [errW_none, errW_some] <;> rfl) | (simp only [← hji9]; first | rfl | (simp [errW_none, errW_some] <;> rfl)) | (simp [*, errW_none, errW_some] <;> rfl), bq⟩
          ·rw [if_neg c11] at H
           exact absurd H (by simp)
         ·rw [if_neg c10] at H
          exact absurd H (by simp)
        ·rw [if_neg c8] at H
         have c8b0 : decide (0 < x10_1) = false := decide_eq_false c8
         clear c8
         have H' := Aside0.mk H
         clear H
         have p184 : 0 ≤ (x10_1 : Int) := od
         have q184 : x10_1 < (l0.length : Int) := od
         obtain ⟨ad184, A184_1, c184_1, e184, hx184_0, hx184_1, hl184_1, hi184_1⟩ := at_T40 HR0.out x10_1 p184 q184
         cases e184
         replace hx184_0 := hc HB hx184_0
         replace hx184_1 := hc HB hx184_1
         have HR184_1 := Aside0.mk hi184_1
         have HC184_1 := Aside0.mk hl184_1
         clear hi184_1 hl184_1
         replace p184 := eq_true p184
         replace q184 := eq_true q184
         try go_wp2_with (first | ((with_reducible refine gate_dst (N := 4) rfl ?_); refine be 4 #[.string (⟨#[]⟩ : ByteArray), .slice none 0 0] 40 ?_; intro gb185 hg w23 hbox hb; have _ := bs hb; have _ := ra (hbox); have _ := bz (w0 := w) hg; have _ := bz (w0 := w) hg; clear HB; rename_i HB BK185 GW185 GE185; clear hb hbox hg; obtain ⟨hcz24_0, hcz24_1, hfz24_0, hfz24_1⟩ := zc2 BK185))
         have n0 : Aside0 (((w23.setCell ⟨gb185, 0, none⟩ (.string ((rd_T40 l0 x10_1).f0))).setCell ⟨gb185, 1, none⟩ (.slice A184_1 ((rd_T40 l0 x10_1).f1).length c184_1)).heap[gb185]? = some (.cells #[.string ((rd_T40 l0 x10_1).f0), .slice A184_1 ((rd_T40 l0 x10_1).f1).length c184_1] 40 (0, 0))) := ⟨bp BK185⟩
         have n1 : Aside0 (Below w.heap.size w ((w23.setCell ⟨gb185, 0, none⟩ (.string ((rd_T40 l0 x10_1).f0))).setCell ⟨gb185, 1, none⟩ (.slice A184_1 ((rd_T40 l0 x10_1).f1).length c184_1))) := ⟨bq⟩
         (try clear BK185)
         (try clear HB)
         generalize ((w23.setCell ⟨gb185, 0, none⟩ (.string ((rd_T40 l0 x10_1).f0))).setCell ⟨gb185, 1, none⟩ (.slice A184_1 ((rd_T40 l0 x10_1).f1).length c184_1)) = w25 at n0 n1 ⊢
         have BK185 := n0
         have HB := n1
         clear n0 n1
         have _ := ra (blk_drew BK185.out)
         have _ := ra (below_drew1 HB.out)
         clear BK185 HB
         rename_i BK185 HB
         refine start_ (n := 18) (S := fun w' => w'.cell? ⟨gb185, 0, none⟩ = some (.string ((rd_T40 l0 x10_1).f0)) ∧ w'.cell? ⟨gb185, 1, none⟩ = some (.slice A184_1 ((rd_T40 l0 x10_1).f1).length c184_1)) (ds := []) (bl 18 0) (by kernel_rfl) rfl rfl ⟨(blk_cell BK185.out 0).trans rfl, (blk_cell BK185.out 1).trans rfl⟩ (fun hHeld => ?_); refine with_tabW impl_ProbeSkyOk.tab6 impl_ProbeSkyOk.bits6 (fun HT_ HW_ => ?_)
         generalize w25.drew = w26 at BK185 HB hHeld ⊢
         refine tk 0 15 (bl 18 1) ?_ hHeld
         refine oe 1 16 (bl 18 3) (fun K hK => ?_)
         refine gs Try.func54 #[.agg #[.string ((rd_T40 l0 x10_1).f0), .slice A184_1 ((rd_T40 l0 x10_1).f1).length c184_1]] ?_
         with_reducible refine (impl_ProbeTubeOk.calls k1 ((rd_T40 l0 x10_1).f0) _ _ ((rd_T40 l0 x10_1).f1) true _ ?side1 ?side2 A6.out).mono ?_
         (case side1 => exact sc HR184_1)
         (case side2 => exact HC184_1.out)
         rintro e w27 ⟨rfl, hb⟩
         refine ⟨_, rfl, ?_⟩
         have _ := bb (bk BK185) hb
         have _ := bs hb
         clear BK185 HB
         rename_i BK185 HB
         (try clear hb)
         (try clear hb2)
         (try clear hk)
         (try clear hi)
         refine hK.out _ _ ⟨(blk_cell BK185.out 0).trans rfl, (blk_cell BK185.out 1).trans rfl⟩ (fun hHeld => ?_)
         clear hK K
         refine nm 16 ?_
         refine pu 2 17 (bl 18 7) ?_
         refine pu 3 18 (bl 18 15) ?_
         refine pu 4 19 (bl 18 31) ?_
         refine pu 5 20 (bl 18 63) ?_
         refine pu 6 21 (bl 18 127) ?_
         refine pv 7 22 (bl 18 255) ?_
         refine pv 8 23 (bl 18 511) ?_
         refine pv 9 24 (bl 18 1023) ?_
         refine pv 10 25 (bl 18 2047) ?_
         refine pv 11 26 (bl 18 4095) ?_
         refine pv 12 27 (bl 18 8191) ?_
         refine pv 13 28 (bl 18 16383) ?_
         refine pv 14 29 (bl 18 32767) ?_
         refine pv 15 30 (bl 18 65535) ?_
         refine pu 16 31 (bl 18 131071) ?_
         refine pu 17 32 (bl 18 262143) ?_
         refine done_ (done_of HT_.out (by kernel_rfl)) ?_
         try go_wp2
         go_roundg k1
         case measure => have := HK1.out; omega
         case rel => exact ⟨(wrap64 (x10_1 + 1)), rs, H', ⟨by have := HK1.out; omega⟩, ⟨bq⟩⟩
       ·replace c7 := Bool.eq_false_iff.mpr c7
        subst c7
        have H1 : (some false) = some r := by rw [if_neg (show ¬ (false = true) by decide)] at H; exact H
        clear H
        have H := H1
        clear H1
        obtain rfl := Option.some.inj H
        have p184 : 0 ≤ (x10_1 : Int) := od
        have q184 : x10_1 < (l0.length : Int) := od
        obtain ⟨ad184, A184_1, c184_1, e184, hx184_0, hx184_1, hl184_1, hi184_1⟩ := at_T40 HR0.out x10_1 p184 q184
        cases e184
        replace hx184_0 := hc HB hx184_0
        replace hx184_1 := hc HB hx184_1
        have HR184_1 := Aside0.mk hi184_1
        have HC184_1 := Aside0.mk hl184_1
        clear hi184_1 hl184_1
        replace p184 := eq_true p184
        replace q184 := eq_true q184
        try go_wp2_with (first | ((with_reducible refine gate_dst (N := 4) rfl ?_); refine be 4 #[.string (⟨#[]⟩ : ByteArray), .slice none 0 0] 40 ?_; intro gb185 hg w28 hbox hb; have _ := bs hb; have _ := ra (hbox); have _ := bz (w0 := w) hg; have _ := bz (w0 := w) hg; clear HB; rename_i HB BK185 GW185 GE185; clear hb hbox hg; obtain ⟨hcz29_0, hcz29_1, hfz29_0, hfz29_1⟩ := zc2 BK185))
        have n0 : Aside0 (((w28.setCell ⟨gb185, 0, none⟩ (.string ((rd_T40 l0 x10_1).f0))).setCell ⟨gb185, 1, none⟩ (.slice A184_1 ((rd_T40 l0 x10_1).f1).length c184_1)).heap[gb185]? = some (.cells #[.string ((rd_T40 l0 x10_1).f0), .slice A184_1 ((rd_T40 l0 x10_1).f1).length c184_1] 40 (0, 0))) := ⟨bp BK185⟩
        have n1 : Aside0 (Below w.heap.size w ((w28.setCell ⟨gb185, 0, none⟩ (.string ((rd_T40 l0 x10_1).f0))).setCell ⟨gb185, 1, none⟩ (.slice A184_1 ((rd_T40 l0 x10_1).f1).length c184_1))) := ⟨bq⟩
        (try clear BK185)
        (try clear HB)
        generalize ((w28.setCell ⟨gb185, 0, none⟩ (.string ((rd_T40 l0 x10_1).f0))).setCell ⟨gb185, 1, none⟩ (.slice A184_1 ((rd_T40 l0 x10_1).f1).length c184_1)) = w30 at n0 n1 ⊢
        have BK185 := n0
        have HB := n1
        clear n0 n1
        have _ := ra (blk_drew BK185.out)
        have _ := ra (below_drew1 HB.out)
        clear BK185 HB
        rename_i BK185 HB
        refine start_ (n := 18) (S := fun w' => w'.cell? ⟨gb185, 0, none⟩ = some (.string ((rd_T40 l0 x10_1).f0)) ∧ w'.cell? ⟨gb185, 1, none⟩ = some (.slice A184_1 ((rd_T40 l0 x10_1).f1).length c184_1)) (ds := []) (bl 18 0) (by kernel_rfl) rfl rfl ⟨(blk_cell BK185.out 0).trans rfl, (blk_cell BK185.out 1).trans rfl⟩ (fun hHeld => ?_); refine with_tabW impl_ProbeSkyOk.tab6 impl_ProbeSkyOk.bits6 (fun HT_ HW_ => ?_)
        generalize w30.drew = w31 at BK185 HB hHeld ⊢
        refine tk 0 15 (bl 18 1) ?_ hHeld
        refine oe 1 16 (bl 18 3) (fun K hK => ?_)
        refine gs Try.func54 #[.agg #[.string ((rd_T40 l0 x10_1).f0), .slice A184_1 ((rd_T40 l0 x10_1).f1).length c184_1]] ?_
        with_reducible refine (impl_ProbeTubeOk.calls k1 ((rd_T40 l0 x10_1).f0) _ _ ((rd_T40 l0 x10_1).f1) false _ ?side1 ?side2 A6.out).mono ?_
        (case side1 => exact sc HR184_1)
        (case side2 => exact HC184_1.out)
        rintro e w32 ⟨rfl, hb⟩
        refine ⟨_, rfl, ?_⟩
        have _ := bb (bk BK185) hb
        have _ := bs hb
        clear BK185 HB
        rename_i BK185 HB
        (try clear hb)
        (try clear hb2)
        (try clear hk)
        (try clear hi)
        refine hK.out _ _ ⟨(blk_cell BK185.out 0).trans rfl, (blk_cell BK185.out 1).trans rfl⟩ (fun hHeld => ?_)
        clear hK K
        refine nm 16 ?_
        refine pu 2 17 (bl 18 7) ?_
        refine pu 3 18 (bl 18 15) ?_
        refine pv 4 19 (bl 18 31) ?_
        refine pv 5 20 (bl 18 63) ?_
        refine pv 6 21 (bl 18 127) ?_
        refine pv 7 22 (bl 18 255) ?_
        refine pv 8 23 (bl 18 511) ?_
        refine pv 9 24 (bl 18 1023) ?_
        refine pv 10 25 (bl 18 2047) ?_
        refine pv 11 26 (bl 18 4095) ?_
        refine pv 12 27 (bl 18 8191) ?_
        refine pv 13 28 (bl 18 16383) ?_
        refine pv 14 29 (bl 18 32767) ?_
        refine pv 15 30 (bl 18 65535) ?_
        refine pv 16 31 (bl 18 131071) ?_
        refine pu 17 32 (bl 18 262143) ?_
        refine done_ (done_of HT_.out (by kernel_rfl)) ?_
        try go_wp2
        go_ret
        exact ⟨re, bq⟩
      ·rw [if_neg c5] at H
       exact absurd H (by simp)
     ·rw [if_neg c4] at H
      exact absurd H (by simp)
    ·rw [if_neg c3] at H
     have c3b0 : decide (x10_1 < (l0.length : Int)) = false := decide_eq_false c3
     clear c3
     obtain rfl := Option.some.inj H
     go_wp2
     go_ret
     exact ⟨re, bq⟩
end Go.Proofs.Ytdbomnhdpniigaa.PA
