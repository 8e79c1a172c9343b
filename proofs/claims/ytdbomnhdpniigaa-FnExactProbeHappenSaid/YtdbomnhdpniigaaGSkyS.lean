/- Contracts of the functions spec_ProbeSkyOk. (Began as a print of the kit's tool.) -/
import Derived.Test.YtdbomnhdpniigaaPAd
import Derived.Test.YtdbomnhdpniigaaCx
import Derived.Test.YtdbomnhdpniigaaGBase
namespace Go.Proofs.Ytdbomnhdpniigaa.PA
open Go.RowKit Go.Proofs.YtdbomnhdpniigaaW.PrintWords Go.Proofs.YtdbomnhdpniigaaW.PrintLast Go.Proofs.YtdbomnhdpniigaaW.PrintMore Go.Proofs.Ytdbomnhdpniigaa.Z
attribute [local go_sem] max2_int min2_int max_two min_two max_three min_three max_four min_four
set_option linter.unusedVariables false
set_option linter.unusedSimpArgs false
def spec_ProbeSkyOk.T6 : Bool × List (List Nat × List Nat) := (true, [([], []), ([], []), ([0, 1], [0, 1]), ([2], [2]), ([3], [3]), ([4], [4]), ([5, 4], [5]), ([6], [6]), ([7, 6], [6, 7]), ([8, 6, 6], [6, 8]), ([9], [9]), ([9], [9]), ([11, 9], [9, 11]), ([10, 12, 9], [9, 10, 12]), ([13, 9], [9, 13]), ([14, 9], [9, 14]), ([9], [9]), ([9], [9]), ([16, 17, 9], [9, 16, 17]), ([18, 9], [9, 18]), ([19, 9], [9, 19]), ([15, 20, 9], [9, 15, 20]), ([9, 21, 6], [6, 9, 21]), ([6, 22], [6, 22])])
def spec_ProbeSkyOk.B6 : List Nat := [0, 0, 3, 7, 15, 31, 63, 127, 255, 511, 1023, 1023, 3071, 8191, 16383, 32767, 1023, 1023, 197631, 459775, 984063, 2097151, 4194303, 8388607]
theorem spec_ProbeSkyOk.tab6 : rtab .any (opsOf Try.f27 6) = spec_ProbeSkyOk.T6 := by kernel_rfl
theorem spec_ProbeSkyOk.bits6 : waitsOk spec_ProbeSkyOk.T6.2 spec_ProbeSkyOk.B6 = true := by kernel_rfl
set_option maxHeartbeats 8000000 in
set_option maxRecDepth 100000 in
theorem spec_ProbeSkyOk.calls (k : Nat) (A0 : Option Addr) (c0 : Nat) (l0 : List (S40)) (r : Bool) (w : World) (hr0 : Kd.C k40 w A0 l0.length l0) (hc0 : l0.length ≤ c0) (h : spec_ProbeSkyOk.f k l0 = some r) :
  Calls Try.prog 27 #[.slice A0 l0.length c0] w fun e w' => e = .returned (.bool r) ∧ Below w.heap.size w w' := by
 have hu40 := Try.underlying40
 have HR0 := Aside0.mk hr0
 have HC0 := Aside0.mk hc0
 clear hr0 hc0
 have HB := ra (Below.refl w.heap.size w)
 have H : (if (l0.length : Int) > 24 then (some false) else (spec_ProbeSkyOk.l0 k l0 0)) = some r := h
 clear h
 by_cases c2 : (l0.length : Int) > 24
 ·rw [if_pos c2] at H
  have c2b0 : decide (24 < (l0.length : Int)) = true := decide_eq_true c2
  have c2b1 : decide (24 < l0.length) = true := decide_eq_true (by omega)
  clear c2
  obtain rfl := Option.some.inj H
  go_enter Try.func27, Try.ntmps27
  go_wp2
  go_ret
  exact ⟨re, bq⟩
 ·rw [if_neg c2] at H
  have c2b0 : decide (24 < (l0.length : Int)) = false := decide_eq_false c2
  have c2b1 : decide (24 < l0.length) = false := decide_eq_false (by omega)
  clear c2
  have H' := Aside0.mk H
  clear H
  go_enter Try.func27, Try.ntmps27
  go_wp2
  go_loopg [3] k (fun kq v3 w' => ∃ (x3_1 : Int), v3 = .int .i64 x3_1 ∧ Aside0 (spec_ProbeSkyOk.l0 kq l0 x3_1 = some r) ∧ Aside0 (kq ≤ k) ∧ Aside0 (Below w.heap.size w w'))
  case atStart => exact ⟨(0), rs, H', ⟨Nat.le_refl _⟩, ⟨bq⟩⟩
  case round =>
   clear H'
   try clear c2
   try clear c2b0
   try clear c2b1
   obtain ⟨x3_1, rfl, HA, HK1, HB⟩ := hrel
   cases gk with
   | zero => exact absurd HA.out (by simp [spec_ProbeSkyOk.l0])
   | succ k1 =>
    have H := HA.out
    clear HA
    simp only [spec_ProbeSkyOk.l0] at H
    by_cases c3 : x3_1 < (l0.length : Int)
    ·rw [if_pos c3] at H
     have c3b0 : decide (x3_1 < (l0.length : Int)) = true := decide_eq_true c3
     clear c3
     by_cases c4 : 0 ≤ x3_1
     ·rw [if_pos c4] at H
      have c4b0 : decide (0 ≤ x3_1) = true := decide_eq_true c4
      clear c4
      obtain ⟨t116, A5, H⟩ := bo H
      by_cases c6 : t116 = true
      ·subst c6
       replace H := it H rfl
       by_cases c7 : x3_1 > 0
       ·rw [if_pos c7] at H
        have c7b0 : decide (0 < x3_1) = true := decide_eq_true c7
        clear c7
        obtain ⟨ji8, hji8⟩ : ∃ j_ : Int, (wrap64 (x3_1 - 1)) = j_ := ⟨_, rfl⟩
        replace H : (if 0 ≤ (ji8) then (if (ji8) < (l0.length : Int) then (if ((Op.bytesLess (((rd_T40 l0 (ji8)).f0).toList) (((rd_T40 l0 x3_1).f0).toList)) = true) then (spec_ProbeSkyOk.l0 k1 l0 (wrap64 (x3_1 + 1))) else (some false)) else (none)) else (none)) = some r := by first | (rw [hji8] at H; exact H) | (simp only [hji8] at H ⊢; exact H)
        (try rw [hji8] at A5)
        have hji8w : (IntKind.i64.wrap (x3_1 - 1)) = ji8 := (i64_w _).trans hji8
        by_cases c9 : 0 ≤ (ji8)
        ·rw [if_pos c9] at H
         have c9b0 : decide (0 ≤ (ji8)) = true := decide_eq_true c9
         clear c9
         by_cases c10 : (ji8) < (l0.length : Int)
         ·rw [if_pos c10] at H
          have c10b0 : decide ((ji8) < (l0.length : Int)) = true := decide_eq_true c10
          clear c10
          by_cases c11 : ((Op.bytesLess (((rd_T40 l0 (ji8)).f0).toList) (((rd_T40 l0 x3_1).f0).toList)) = true)
          ·rw [if_pos c11] at H
           have c11b0 : (Op.bytesLess (((rd_T40 l0 (ji8)).f0).toList) (((rd_T40 l0 x3_1).f0).toList)) = true := c11
           clear c11
           have H' := Aside0.mk H
           clear H
           try go_wp2
           have _ := ra (below_drew1 HB.out)
           clear HB
           rename_i HB
           have p115 : 0 ≤ (x3_1 : Int) := od
           have q115 : x3_1 < (l0.length : Int) := od
           obtain ⟨ad115, A115_1, c115_1, e115, hx115_0, hx115_1, hl115_1, hi115_1⟩ := at_T40 HR0.out x3_1 p115 q115
           have hw115_1 := hx115_1
           have hw115_0 := hx115_0
           cases e115
           replace hx115_0 := hc HB hx115_0
           replace hx115_1 := hc HB hx115_1
           have HR115_1 := Aside0.mk hi115_1
           have HC115_1 := Aside0.mk hl115_1
           clear hi115_1 hl115_1
           replace p115 := eq_true p115
           replace q115 := eq_true q115
           have p117 : 0 ≤ ((ji8) : Int) := od
           have q117 : (ji8) < (l0.length : Int) := od
           obtain ⟨ad117, A117_1, c117_1, e117, hx117_0, hx117_1, hl117_1, hi117_1⟩ := at_T40 HR0.out (ji8) p117 q117
           have hw117_1 := hx117_1
           have hw117_0 := hx117_0
           obtain rfl : ad115 = ad117 := (by injection e117)
           replace hx117_0 := hc HB hx117_0
           replace hx117_1 := hc HB hx117_1
           have HR117_1 := Aside0.mk hi117_1
           have HC117_1 := Aside0.mk hl117_1
           clear hi117_1 hl117_1
           replace p117 := eq_true p117
           replace q117 := eq_true q117
           have p118 : 0 ≤ (x3_1 : Int) := od
           have q118 : x3_1 < (l0.length : Int) := od
           obtain ⟨ad118, A118_1, c118_1, e118, hx118_0, hx118_1, hl118_1, hi118_1⟩ := at_T40 HR0.out x3_1 p118 q118
           have hw118_1 := hx118_1
           have hw118_0 := hx118_0
           obtain rfl : ad115 = ad118 := (by injection e118)
           replace hx118_0 := hc HB hx118_0
           replace hx118_1 := hc HB hx118_1
           have HR118_1 := Aside0.mk hi118_1
           have HC118_1 := Aside0.mk hl118_1
           clear hi118_1 hl118_1
           replace p118 := eq_true p118
           replace q118 := eq_true q118
           refine start_ (n := 24) (S := fun w' => w'.cell? (ad115.add ((x3_1).toNat * 2)) = some (.string ((rd_T40 l0 x3_1).f0)) ∧ w'.cell? ⟨(ad115.add ((x3_1).toNat * 2)).block, (ad115.add ((x3_1).toNat * 2)).off + 1, none⟩ = some (.slice A115_1 ((rd_T40 l0 x3_1).f1).length c115_1) ∧ w'.cell? (ad115.add (((ji8)).toNat * 2)) = some (.string ((rd_T40 l0 (ji8)).f0)) ∧ w'.cell? ⟨(ad115.add (((ji8)).toNat * 2)).block, (ad115.add (((ji8)).toNat * 2)).off + 1, none⟩ = some (.slice A117_1 ((rd_T40 l0 (ji8)).f1).length c117_1) ∧ w'.cell? (ad115.add ((x3_1).toNat * 2)) = some (.string ((rd_T40 l0 x3_1).f0)) ∧ w'.cell? ⟨(ad115.add ((x3_1).toNat * 2)).block, (ad115.add ((x3_1).toNat * 2)).off + 1, none⟩ = some (.slice A118_1 ((rd_T40 l0 x3_1).f1).length c118_1)) (ds := []) (bl 24 0) (by kernel_rfl) rfl rfl ⟨(hc HB hw115_0), (hc HB hw115_1), (hc HB hw117_0), (hc HB hw117_1), (hc HB hw118_0), (hc HB hw118_1)⟩ (fun hHeld => ?_); refine with_tabW spec_ProbeSkyOk.tab6 spec_ProbeSkyOk.bits6 (fun HT_ HW_ => ?_)
           generalize wr.drew = w12 at HB HR115_1 HR117_1 HR118_1 hx115_0 hx115_1 hx117_0 hx117_1 hx118_0 hx118_1 hHeld ⊢
           refine pu 0 13 (bl 24 1) ?_
           refine pu 1 14 (bl 24 3) ?_
           refine pu 2 15 (bl 24 7) ?_
           refine tk 3 16 (bl 24 15) ?_ hHeld
           refine oe 4 17 (bl 24 31) (fun K hK => ?_)
           refine gs Try.func51 #[.agg #[.string ((rd_T40 l0 x3_1).f0), .slice A115_1 ((rd_T40 l0 x3_1).f1).length c115_1]] ?_
           with_reducible refine (spec_ProbeTubeOk.calls k1 ((rd_T40 l0 x3_1).f0) _ _ ((rd_T40 l0 x3_1).f1) true _ ?side1 ?side2 A5.out).mono ?_
           (case side1 => exact sc HR115_1)
           (case side2 => exact HC115_1.out)
           rintro e w13 ⟨rfl, hb⟩
           refine ⟨_, rfl, ?_⟩
           have _ := bs hb
           clear HB
           rename_i HB
           (try clear hb)
           (try clear hb2)
           (try clear hk)
           (try clear hi)
           refine hK.out _ _ ⟨(hc HB hw115_0), (hc HB hw115_1), (hc HB hw117_0), (hc HB hw117_1), (hc HB hw118_0), (hc HB hw118_1)⟩ (fun hHeld => ?_)
           clear hK K
           refine nm 17 ?_
           refine pu 5 18 (bl 24 63) ?_
           refine pu 6 19 (bl 24 127) ?_
           refine pu 7 20 (bl 24 255) ?_
           refine pu 8 21 (bl 24 511) ?_
           refine pu 9 22 (bl 24 1023) ?_
           refine pu 10 23 (bl 24 2047) ?_
           refine pu 11 24 (bl 24 4095) ?_
           refine pu 12 25 (bl 24 8191) ?_
           refine pu 13 26 (bl 24 16383) ?_
           refine pu 14 27 (bl 24 32767) ?_
           refine pu 16 29 (bl 24 98303) ?_
           refine pu 17 30 (bl 24 229375) ?_
           refine pu 18 31 (bl 24 491519) ?_
           refine pu 19 32 (bl 24 1015807) ?_
           refine tk 15 28 (bl 24 1048575) ?_ hHeld
           refine tk 20 33 (bl 24 2097151) ?_ hHeld
           refine pu 21 34 (bl 24 4194303) ?_
           refine pu 22 35 (bl 24 8388607) ?_
           refine pu 23 36 (bl 24 16777215) ?_
           refine done_ (done_of HT_.out (by kernel_rfl)) ?_
           try go_wp2
           go_roundg k1
           case measure => have := HK1.out; omega
           case rel => exact ⟨(wrap64 (x3_1 + 1)), rs, H', ⟨by have := HK1.out; omega⟩, ⟨bq⟩⟩
          ·rw [if_neg c11] at H
           have c11b0 : (Op.bytesLess (((rd_T40 l0 (ji8)).f0).toList) (((rd_T40 l0 x3_1).f0).toList)) = false := by simpa using c11
           clear c11
           obtain rfl := Option.some.inj H
           try go_wp2
           have _ := ra (below_drew1 HB.out)
           clear HB
           rename_i HB
           have p115 : 0 ≤ (x3_1 : Int) := od
           have q115 : x3_1 < (l0.length : Int) := od
           obtain ⟨ad115, A115_1, c115_1, e115, hx115_0, hx115_1, hl115_1, hi115_1⟩ := at_T40 HR0.out x3_1 p115 q115
           have hw115_1 := hx115_1
           have hw115_0 := hx115_0
           cases e115
           replace hx115_0 := hc HB hx115_0
           replace hx115_1 := hc HB hx115_1
           have HR115_1 := Aside0.mk hi115_1
           have HC115_1 := Aside0.mk hl115_1
           clear hi115_1 hl115_1
           replace p115 := eq_true p115
           replace q115 := eq_true q115
           have p117 : 0 ≤ ((ji8) : Int) := od
           have q117 : (ji8) < (l0.length : Int) := od
           obtain ⟨ad117, A117_1, c117_1, e117, hx117_0, hx117_1, hl117_1, hi117_1⟩ := at_T40 HR0.out (ji8) p117 q117
           have hw117_1 := hx117_1
           have hw117_0 := hx117_0
           obtain rfl : ad115 = ad117 := (by injection e117)
           replace hx117_0 := hc HB hx117_0
           replace hx117_1 := hc HB hx117_1
           have HR117_1 := Aside0.mk hi117_1
           have HC117_1 := Aside0.mk hl117_1
           clear hi117_1 hl117_1
           replace p117 := eq_true p117
           replace q117 := eq_true q117
           have p118 : 0 ≤ (x3_1 : Int) := od
           have q118 : x3_1 < (l0.length : Int) := od
           obtain ⟨ad118, A118_1, c118_1, e118, hx118_0, hx118_1, hl118_1, hi118_1⟩ := at_T40 HR0.out x3_1 p118 q118
           have hw118_1 := hx118_1
           have hw118_0 := hx118_0
           obtain rfl : ad115 = ad118 := (by injection e118)
           replace hx118_0 := hc HB hx118_0
           replace hx118_1 := hc HB hx118_1
           have HR118_1 := Aside0.mk hi118_1
           have HC118_1 := Aside0.mk hl118_1
           clear hi118_1 hl118_1
           replace p118 := eq_true p118
           replace q118 := eq_true q118
           refine start_ (n := 24) (S := fun w' => w'.cell? (ad115.add ((x3_1).toNat * 2)) = some (.string ((rd_T40 l0 x3_1).f0)) ∧ w'.cell? ⟨(ad115.add ((x3_1).toNat * 2)).block, (ad115.add ((x3_1).toNat * 2)).off + 1, none⟩ = some (.slice A115_1 ((rd_T40 l0 x3_1).f1).length c115_1) ∧ w'.cell? (ad115.add (((ji8)).toNat * 2)) = some (.string ((rd_T40 l0 (ji8)).f0)) ∧ w'.cell? ⟨(ad115.add (((ji8)).toNat * 2)).block, (ad115.add (((ji8)).toNat * 2)).off + 1, none⟩ = some (.slice A117_1 ((rd_T40 l0 (ji8)).f1).length c117_1) ∧ w'.cell? (ad115.add ((x3_1).toNat * 2)) = some (.string ((rd_T40 l0 x3_1).f0)) ∧ w'.cell? ⟨(ad115.add ((x3_1).toNat * 2)).block, (ad115.add ((x3_1).toNat * 2)).off + 1, none⟩ = some (.slice A118_1 ((rd_T40 l0 x3_1).f1).length c118_1)) (ds := []) (bl 24 0) (by kernel_rfl) rfl rfl ⟨(hc HB hw115_0), (hc HB hw115_1), (hc HB hw117_0), (hc HB hw117_1), (hc HB hw118_0), (hc HB hw118_1)⟩ (fun hHeld => ?_); refine with_tabW spec_ProbeSkyOk.tab6 spec_ProbeSkyOk.bits6 (fun HT_ HW_ => ?_)
           generalize wr.drew = w14 at HB HR115_1 HR117_1 HR118_1 hx115_0 hx115_1 hx117_0 hx117_1 hx118_0 hx118_1 hHeld ⊢
           refine pu 0 13 (bl 24 1) ?_
           refine pu 1 14 (bl 24 3) ?_
           refine pu 2 15 (bl 24 7) ?_
           refine tk 3 16 (bl 24 15) ?_ hHeld
           refine oe 4 17 (bl 24 31) (fun K hK => ?_)
           refine gs Try.func51 #[.agg #[.string ((rd_T40 l0 x3_1).f0), .slice A115_1 ((rd_T40 l0 x3_1).f1).length c115_1]] ?_
           with_reducible refine (spec_ProbeTubeOk.calls k1 ((rd_T40 l0 x3_1).f0) _ _ ((rd_T40 l0 x3_1).f1) true _ ?side1 ?side2 A5.out).mono ?_
           (case side1 => exact sc HR115_1)
           (case side2 => exact HC115_1.out)
           rintro e w15 ⟨rfl, hb⟩
           refine ⟨_, rfl, ?_⟩
           have _ := bs hb
           clear HB
           rename_i HB
           (try clear hb)
           (try clear hb2)
           (try clear hk)
           (try clear hi)
           refine hK.out _ _ ⟨(hc HB hw115_0), (hc HB hw115_1), (hc HB hw117_0), (hc HB hw117_1), (hc HB hw118_0), (hc HB hw118_1)⟩ (fun hHeld => ?_)
           clear hK K
           refine nm 17 ?_
           refine pu 5 18 (bl 24 63) ?_
           refine pu 6 19 (bl 24 127) ?_
           refine pu 7 20 (bl 24 255) ?_
           refine pu 8 21 (bl 24 511) ?_
           refine pu 9 22 (bl 24 1023) ?_
           refine pu 10 23 (bl 24 2047) ?_
           refine pu 11 24 (bl 24 4095) ?_
           refine pu 12 25 (bl 24 8191) ?_
           refine pu 13 26 (bl 24 16383) ?_
           refine pu 14 27 (bl 24 32767) ?_
           refine pu 16 29 (bl 24 98303) ?_
           refine pu 17 30 (bl 24 229375) ?_
           refine pu 18 31 (bl 24 491519) ?_
           refine pu 19 32 (bl 24 1015807) ?_
           refine tk 15 28 (bl 24 1048575) ?_ hHeld
           refine tk 20 33 (bl 24 2097151) ?_ hHeld
           refine pu 21 34 (bl 24 4194303) ?_
           refine pu 22 35 (bl 24 8388607) ?_
           refine pu 23 36 (bl 24 16777215) ?_
           refine done_ (done_of HT_.out (by kernel_rfl)) ?_
           try go_wp2
           go_ret
           exact ⟨by first | rfl | (simp [errW_none, errW_some] <;> rfl) | (simp only [← hji8]; first | rfl | (simp [errW_none, errW_some] <;> rfl)) | (simp [*, errW_none, errW_some] <;> rfl), bq⟩
         ·rw [if_neg c10] at H
          exact absurd H (by simp)
        ·rw [if_neg c9] at H
         exact absurd H (by simp)
       ·rw [if_neg c7] at H
        have c7b0 : decide (0 < x3_1) = false := decide_eq_false c7
        clear c7
        have H' := Aside0.mk H
        clear H
        try go_wp2
        have _ := ra (below_drew1 HB.out)
        clear HB
        rename_i HB
        have p115 : 0 ≤ (x3_1 : Int) := od
        have q115 : x3_1 < (l0.length : Int) := od
        obtain ⟨ad115, A115_1, c115_1, e115, hx115_0, hx115_1, hl115_1, hi115_1⟩ := at_T40 HR0.out x3_1 p115 q115
        have hw115_1 := hx115_1
        have hw115_0 := hx115_0
        cases e115
        replace hx115_0 := hc HB hx115_0
        replace hx115_1 := hc HB hx115_1
        have HR115_1 := Aside0.mk hi115_1
        have HC115_1 := Aside0.mk hl115_1
        clear hi115_1 hl115_1
        replace p115 := eq_true p115
        replace q115 := eq_true q115
        refine start_ (n := 24) (S := fun w' => w'.cell? (ad115.add ((x3_1).toNat * 2)) = some (.string ((rd_T40 l0 x3_1).f0)) ∧ w'.cell? ⟨(ad115.add ((x3_1).toNat * 2)).block, (ad115.add ((x3_1).toNat * 2)).off + 1, none⟩ = some (.slice A115_1 ((rd_T40 l0 x3_1).f1).length c115_1)) (ds := []) (bl 24 0) (by kernel_rfl) rfl rfl ⟨(hc HB hw115_0), (hc HB hw115_1)⟩ (fun hHeld => ?_); refine with_tabW spec_ProbeSkyOk.tab6 spec_ProbeSkyOk.bits6 (fun HT_ HW_ => ?_)
        generalize wr.drew = w16 at HB HR115_1 hx115_0 hx115_1 hHeld ⊢
        refine pu 0 13 (bl 24 1) ?_
        refine pu 1 14 (bl 24 3) ?_
        refine pu 2 15 (bl 24 7) ?_
        refine tk 3 16 (bl 24 15) ?_ hHeld
        refine oe 4 17 (bl 24 31) (fun K hK => ?_)
        refine gs Try.func51 #[.agg #[.string ((rd_T40 l0 x3_1).f0), .slice A115_1 ((rd_T40 l0 x3_1).f1).length c115_1]] ?_
        with_reducible refine (spec_ProbeTubeOk.calls k1 ((rd_T40 l0 x3_1).f0) _ _ ((rd_T40 l0 x3_1).f1) true _ ?side1 ?side2 A5.out).mono ?_
        (case side1 => exact sc HR115_1)
        (case side2 => exact HC115_1.out)
        rintro e w17 ⟨rfl, hb⟩
        refine ⟨_, rfl, ?_⟩
        have _ := bs hb
        clear HB
        rename_i HB
        (try clear hb)
        (try clear hb2)
        (try clear hk)
        (try clear hi)
        refine hK.out _ _ ⟨(hc HB hw115_0), (hc HB hw115_1)⟩ (fun hHeld => ?_)
        clear hK K
        refine nm 17 ?_
        refine pu 5 18 (bl 24 63) ?_
        refine pu 6 19 (bl 24 127) ?_
        refine pu 7 20 (bl 24 255) ?_
        refine pu 8 21 (bl 24 511) ?_
        refine pu 9 22 (bl 24 1023) ?_
        refine pv 10 23 (bl 24 2047) ?_
        refine pv 11 24 (bl 24 4095) ?_
        refine pv 12 25 (bl 24 8191) ?_
        refine pv 13 26 (bl 24 16383) ?_
        refine pv 14 27 (bl 24 32767) ?_
        refine pv 15 28 (bl 24 65535) ?_
        refine pv 16 29 (bl 24 131071) ?_
        refine pv 17 30 (bl 24 262143) ?_
        refine pv 18 31 (bl 24 524287) ?_
        refine pv 19 32 (bl 24 1048575) ?_
        refine pv 20 33 (bl 24 2097151) ?_
        refine pv 21 34 (bl 24 4194303) ?_
        refine pu 22 35 (bl 24 8388607) ?_
        refine pu 23 36 (bl 24 16777215) ?_
        refine done_ (done_of HT_.out (by kernel_rfl)) ?_
        try go_wp2
        go_roundg k1
        case measure => have := HK1.out; omega
        case rel => exact ⟨(wrap64 (x3_1 + 1)), rs, H', ⟨by have := HK1.out; omega⟩, ⟨bq⟩⟩
      ·replace c6 := Bool.eq_false_iff.mpr c6
       subst c6
       have H1 : (some false) = some r := by rw [if_neg (show ¬ (false = true) by decide)] at H; exact H
       clear H
       have H := H1
       clear H1
       obtain rfl := Option.some.inj H
       try go_wp2
       have _ := ra (below_drew1 HB.out)
       clear HB
       rename_i HB
       have p115 : 0 ≤ (x3_1 : Int) := od
       have q115 : x3_1 < (l0.length : Int) := od
       obtain ⟨ad115, A115_1, c115_1, e115, hx115_0, hx115_1, hl115_1, hi115_1⟩ := at_T40 HR0.out x3_1 p115 q115
       have hw115_1 := hx115_1
       have hw115_0 := hx115_0
       cases e115
       replace hx115_0 := hc HB hx115_0
       replace hx115_1 := hc HB hx115_1
       have HR115_1 := Aside0.mk hi115_1
       have HC115_1 := Aside0.mk hl115_1
       clear hi115_1 hl115_1
       replace p115 := eq_true p115
       replace q115 := eq_true q115
       refine start_ (n := 24) (S := fun w' => w'.cell? (ad115.add ((x3_1).toNat * 2)) = some (.string ((rd_T40 l0 x3_1).f0)) ∧ w'.cell? ⟨(ad115.add ((x3_1).toNat * 2)).block, (ad115.add ((x3_1).toNat * 2)).off + 1, none⟩ = some (.slice A115_1 ((rd_T40 l0 x3_1).f1).length c115_1)) (ds := []) (bl 24 0) (by kernel_rfl) rfl rfl ⟨(hc HB hw115_0), (hc HB hw115_1)⟩ (fun hHeld => ?_); refine with_tabW spec_ProbeSkyOk.tab6 spec_ProbeSkyOk.bits6 (fun HT_ HW_ => ?_)
       generalize wr.drew = w18 at HB HR115_1 hx115_0 hx115_1 hHeld ⊢
       refine pu 0 13 (bl 24 1) ?_
       refine pu 1 14 (bl 24 3) ?_
       refine pu 2 15 (bl 24 7) ?_
       refine tk 3 16 (bl 24 15) ?_ hHeld
       refine oe 4 17 (bl 24 31) (fun K hK => ?_)
       refine gs Try.func51 #[.agg #[.string ((rd_T40 l0 x3_1).f0), .slice A115_1 ((rd_T40 l0 x3_1).f1).length c115_1]] ?_
       with_reducible refine (spec_ProbeTubeOk.calls k1 ((rd_T40 l0 x3_1).f0) _ _ ((rd_T40 l0 x3_1).f1) false _ ?side1 ?side2 A5.out).mono ?_
       (case side1 => exact sc HR115_1)
       (case side2 => exact HC115_1.out)
       rintro e w19 ⟨rfl, hb⟩
       refine ⟨_, rfl, ?_⟩
       have _ := bs hb
       clear HB
       rename_i HB
       (try clear hb)
       (try clear hb2)
       (try clear hk)
       (try clear hi)
       refine hK.out _ _ ⟨(hc HB hw115_0), (hc HB hw115_1)⟩ (fun hHeld => ?_)
       clear hK K
       refine nm 17 ?_
       refine pu 5 18 (bl 24 63) ?_
       refine pu 6 19 (bl 24 127) ?_
       refine pv 7 20 (bl 24 255) ?_
       refine pv 8 21 (bl 24 511) ?_
       refine pv 9 22 (bl 24 1023) ?_
       refine pv 10 23 (bl 24 2047) ?_
       refine pv 11 24 (bl 24 4095) ?_
       refine pv 12 25 (bl 24 8191) ?_
       refine pv 13 26 (bl 24 16383) ?_
       refine pv 14 27 (bl 24 32767) ?_
       refine pv 15 28 (bl 24 65535) ?_
       refine pv 16 29 (bl 24 131071) ?_
       refine pv 17 30 (bl 24 262143) ?_
       refine pv 18 31 (bl 24 524287) ?_
       refine pv 19 32 (bl 24 1048575) ?_
       refine pv 20 33 (bl 24 2097151) ?_
       refine pv 21 34 (bl 24 4194303) ?_
       refine pv 22 35 (bl 24 8388607) ?_
       refine pu 23 36 (bl 24 16777215) ?_
       refine done_ (done_of HT_.out (by kernel_rfl)) ?_
       try go_wp2
       go_ret
       exact ⟨re, bq⟩
     ·rw [if_neg c4] at H
      exact absurd H (by simp)
    ·rw [if_neg c3] at H
     have c3b0 : decide (x3_1 < (l0.length : Int)) = false := decide_eq_false c3
     clear c3
     obtain rfl := Option.some.inj H
     go_wp2
     go_ret
     exact ⟨re, bq⟩
end Go.Proofs.Ytdbomnhdpniigaa.PA
