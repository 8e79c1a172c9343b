/- Contracts of the program's and the reference's functions (they began as prints of the kit's tool; shortened and joined). No condition beside what the Lean functions say. -/
import Derived.Test.YtgklmafdbgnohaaGreatFPAd4
import Derived.Test.YtgklmafdbgnohaaGreatFZCx5
import Derived.Test.YtgklmafdbgnohaaGreatFZCv8
import Derived.Test.YtgklmafdbgnohaaGreatFG9
import Derived.Test.YtgklmafdbgnohaaGreatFZSrch15
import Derived.Test.YtgklmafdbgnohaaGreatFZIns16
import Derived.Test.YtgklmafdbgnohaaGreatFZCy6
import Derived.Test.YtgklmafdbgnohaaGreatFR11
import Derived.Test.YtgklmafdbgnohaaGreatFZCm7
section
namespace Go.Proofs.YtgklmafdbgnohaaGreat.PA
open Go.RowKit Go.Proofs.YtgklmafdbgnohaaGreatW.PrintWords Go.Proofs.YtgklmafdbgnohaaGreatW.PrintLast Go.Proofs.YtgklmafdbgnohaaGreatW.PrintMore Go.Proofs.YtgklmafdbgnohaaGreat.Z
attribute [local go_sem] max2_int min2_int max_two min_two max_three min_three max_four min_four
set_option linter.unusedVariables false
set_option maxHeartbeats 8000000
set_option maxRecDepth 100000
set_option linter.unusedSimpArgs false
def impl_ProbeSkyOk.T6 : Bool × List (List Nat × List Nat) := (true, [([], []), ([0], [0]), ([1], [1]), ([2, 1], [2]), ([3], [3]), ([4, 3], [3, 4]), ([5, 3, 3], [3, 5]), ([6], [6]), ([6], [6]), ([8, 6], [6, 8]), ([7, 9, 6], [6, 7, 9]), ([10, 6], [6, 10]), ([11, 6], [6, 11]), ([6], [6]), ([13, 6], [6, 13]), ([12, 14, 6], [6, 12, 14]), ([6, 15, 3], [3, 6, 15]), ([3, 16], [3, 16])])
def impl_ProbeSkyOk.B6 : List Nat := [0, 1, 3, 7, 15, 31, 63, 127, 127, 383, 1023, 2047, 4095, 127, 8319, 32767, 65535, 131071]
theorem impl_ProbeSkyOk.tab6 : rtab .any (opsOf Tryz.f11 6) = impl_ProbeSkyOk.T6 := by kernel_rfl
theorem impl_ProbeSkyOk.bits6 : waitsOk impl_ProbeSkyOk.T6.2 impl_ProbeSkyOk.B6 = true := by kernel_rfl
theorem impl_ProbeSkyOk.calls (k : Nat) (A0 : Option Addr) (c0 : Nat) (l0 : List (S32)) (r : Bool) (w : World) (hr0 : Kd.C k32 w A0 l0.length l0) (hc0 : l0.length ≤ c0) (h : impl_ProbeSkyOk.f k l0 = some r) :
  Calls Tryz.prog 11 #[.slice A0 l0.length c0] w fun e w' => e = .returned (.bool r) ∧ Below w.heap.size w w' := by
 have Z0 := Tryz.underlying32
 have Z1 := ra hr0
 have Z2 := ra hc0
 clear hr0 hc0
 have HB := ra (Below.refl w.heap.size w)
 have H := h; unfold impl_ProbeSkyOk.f at H
 clear h
 rcases sd H with ⟨Z3, Z4, H⟩ | ⟨Z3, Z4, H⟩
 ·have Z5 : decide (24 < l0.length) = true := decide_eq_true (by omega)
  clear Z3
  obtain rfl := Option.some.inj H
  go_enter Tryz.func11, Tryz.ntmps11
  go_wp2
  go_ret
  exact ⟨re, bq⟩
 ·have Z5 : decide (24 < l0.length) = false := decide_eq_false (by omega)
  clear Z3
  have H' := ra H; clear H
  go_enter Tryz.func11, Tryz.ntmps11
  go_wp2
  go_loopg [10] k (fun kq v10 w' => ∃ (x10_1 : Int), v10 = .int .i64 x10_1 ∧ Aside0 (impl_ProbeSkyOk.l0 kq l0 l0 (l0.length : Int) x10_1 = some r) ∧ Aside0 (kq ≤ k) ∧ Aside0 (Below w.heap.size w w'))
  case atStart => exact ⟨_, rs, H', ⟨Nat.le_refl _⟩, ⟨bq⟩⟩
  case round =>
   clear H'
   try clear Z3
   try clear Z4
   try clear Z5
   obtain ⟨Z6, rfl, HA, Z7, HB⟩ := hrel
   cases gk with
   | zero => exact absurd HA.out (by simp [impl_ProbeSkyOk.l0])
   | succ Z8 =>
    have H := HA.out
    clear HA
    simp only [impl_ProbeSkyOk.l0] at H
    rcases td H with ⟨Z9, H⟩ | ⟨Z9, H⟩
    ·obtain ⟨Z10, H⟩ := tn H
     obtain ⟨Z11, H⟩ := tn H
     obtain ⟨Z12, Z13, H⟩ := bo H
     rcases ud H with ⟨rfl, Z14⟩ | ⟨rfl, Z14⟩ <;> have H := Z14
     ·rcases td H with ⟨Z15, H⟩ | ⟨Z15, H⟩
      ·obtain ⟨Z16, Z17⟩ : ∃ j_ : Int, (wrap64 (Z6 - 1)) = j_ := ⟨_, rfl⟩
       replace H : (if 0 ≤ (Z16) then (if (Z16) < (l0.length : Int) then (if ((Op.bytesLess (((rd_T32 l0 (Z16)).f0).toList) (((rd_T32 l0 Z6).f0).toList)) = true) then (impl_ProbeSkyOk.l0 Z8 l0 l0 (l0.length : Int) (wrap64 (Z6 + 1))) else (some false)) else (none)) else (none)) = some r := by first | (rw [Z17] at H; exact H) | (simp only [Z17] at H ⊢; exact H)
       (try rw [Z17] at Z13)
       have Z18 : (IntKind.i64.wrap (Z6 - 1)) = Z16 := (i64_w _).trans Z17
       obtain ⟨Z19, H⟩ := tn H
       obtain ⟨Z20, H⟩ := tn H
       by_cases Z21 : ((Op.bytesLess (((rd_T32 l0 (Z16)).f0).toList) (((rd_T32 l0 Z6).f0).toList)) = true)
       ·rw [if_pos Z21] at H
        have Z22 : (Op.bytesLess (((rd_T32 l0 (Z16)).f0).toList) (((rd_T32 l0 Z6).f0).toList)) = true := Z21
        clear Z21
        have H' := ra H; clear H
        have Z23 : 0 ≤ (Z6 : Int) := od
        have Z24 : Z6 < (l0.length : Int) := od
        obtain ⟨Z25, Z26, Z27, Z28, Z29, Z30, Z31, Z32⟩ := at_T32 Z1.out Z6 Z23 Z24
        cases Z28
        replace Z29 := hc HB Z29
        replace Z30 := hc HB Z30
        have Z33 := ra Z32
        have Z34 := ra Z31
        clear Z32 Z31
        replace Z23 := eq_true Z23
        replace Z24 := eq_true Z24
        try go_wp2_with (first | ((with_reducible refine gd 4 rfl ?_); refine bd 4 #[.string (⟨#[]⟩ : ByteArray), .slice none 0 0] 32 ?_; intro Z35 Z36 HB Z37 Z38; obtain ⟨Z39, Z40, Z41, Z42⟩ := zc2 Z37))
        have Z43 : Aside0 (((Z36.setCell ⟨Z35, 0, none⟩ (.string ((rd_T32 l0 Z6).f0))).setCell ⟨Z35, 1, none⟩ (.slice Z26 ((rd_T32 l0 Z6).f1).length Z27)).heap[Z35]? = some (.cells #[.string ((rd_T32 l0 Z6).f0), .slice Z26 ((rd_T32 l0 Z6).f1).length Z27] 32 (0, 0))) := ⟨bp Z37⟩
        have Z44 : Aside0 (Below w.heap.size w ((Z36.setCell ⟨Z35, 0, none⟩ (.string ((rd_T32 l0 Z6).f0))).setCell ⟨Z35, 1, none⟩ (.slice Z26 ((rd_T32 l0 Z6).f1).length Z27))) := ⟨bq⟩
        (try clear Z37)
        (try clear HB)
        generalize ((Z36.setCell ⟨Z35, 0, none⟩ (.string ((rd_T32 l0 Z6).f0))).setCell ⟨Z35, 1, none⟩ (.slice Z26 ((rd_T32 l0 Z6).f1).length Z27)) = Z45 at Z43 Z44 ⊢
        have Z37 := Z43
        have HB := Z44
        clear Z43 Z44
        have _ := ra (blk_drew Z37.out)
        have _ := ra (below_drew1 HB.out)
        clear Z37 HB
        rename_i Z37 HB
        have Z46 : 0 ≤ ((Z16) : Int) := od
        have Z47 : (Z16) < (l0.length : Int) := od
        obtain ⟨Z48, Z49, Z50, Z51, Z52, Z53, Z54, Z55⟩ := at_T32 Z1.out (Z16) Z46 Z47
        have Z56 := Z53
        have Z57 := Z52
        obtain rfl : Z25 = Z48 := (by injection Z51)
        replace Z52 := hc HB Z52
        replace Z53 := hc HB Z53
        have Z58 := ra Z55
        have Z59 := ra Z54
        clear Z55 Z54
        replace Z46 := eq_true Z46
        replace Z47 := eq_true Z47
        refine start_ (n := 18) (S := fun w' => w'.cell? ⟨Z35, 0, none⟩ = some (.string ((rd_T32 l0 Z6).f0)) ∧ w'.cell? ⟨Z35, 1, none⟩ = some (.slice Z26 ((rd_T32 l0 Z6).f1).length Z27) ∧ w'.cell? (Z25.add (((Z16)).toNat * 2)) = some (.string ((rd_T32 l0 (Z16)).f0)) ∧ w'.cell? ⟨(Z25.add (((Z16)).toNat * 2)).block, (Z25.add (((Z16)).toNat * 2)).off + 1, none⟩ = some (.slice Z49 ((rd_T32 l0 (Z16)).f1).length Z50)) (ds := []) (bl 18 0) (by kernel_rfl) rfl rfl ⟨(blk_cell Z37.out 0).trans rfl, (blk_cell Z37.out 1).trans rfl, (hc HB Z57), (hc HB Z56)⟩ (fun hHeld => ?_); refine with_tabW impl_ProbeSkyOk.tab6 impl_ProbeSkyOk.bits6 (fun HT_ HW_ => ?_)
        generalize Z45.drew = Z60 at Z37 HB Z58 Z52 Z53 hHeld ⊢
        refine tk 0 15 (bl 18 1) ?_ hHeld
        refine oe 1 16 (bl 18 3) (fun K hK => ?_)
        refine gs Tryz.func43 #[.agg #[.string ((rd_T32 l0 Z6).f0), .slice Z26 ((rd_T32 l0 Z6).f1).length Z27]] ?_
        with_reducible refine (impl_ProbeTubeOk.calls Z8 ((rd_T32 l0 Z6).f0) _ _ ((rd_T32 l0 Z6).f1) true _ ?side1 ?side2 Z13.out).mono ?_
        (case side1 => exact sc Z33)
        (case side2 => exact Z34.out)
        rintro e Z61 ⟨rfl, hb⟩
        refine ⟨_, rfl, ?_⟩
        have _ := bb (bk Z37) hb
        have _ := bs hb
        clear Z37 HB
        rename_i Z37 HB
        (try clear hb)
        refine hK.out _ _ ⟨(blk_cell Z37.out 0).trans rfl, (blk_cell Z37.out 1).trans rfl, (hc HB Z57), (hc HB Z56)⟩ (fun hHeld => ?_)
        clear hK K
        refine nm 16 ?_
        refine pu 2 17 (bl 18 7) ?_
        refine pu 3 18 (bl 18 15) ?_
        refine pu 4 19 (bl 18 31) ?_
        refine pu 5 20 (bl 18 63) ?_
        refine pu 6 21 (bl 18 127) ?_
        refine pu 7 22 (bl 18 255) ?_
        refine pu 8 23 (bl 18 511) ?_
        refine pu 9 24 (bl 18 1023) ?_
        refine pu 10 25 (bl 18 2047) ?_
        refine pu 11 26 (bl 18 4095) ?_
        refine pu 13 28 (bl 18 12287) ?_
        refine tk 12 27 (bl 18 16383) ?_ hHeld
        refine tk 14 29 (bl 18 32767) ?_ hHeld
        refine pu 15 30 (bl 18 65535) ?_
        refine pu 16 31 (bl 18 131071) ?_
        refine pu 17 32 (bl 18 262143) ?_
        refine done_ (done_of HT_.out (by kernel_rfl)) ?_
        try go_wp2
        go_roundg Z8
        case measure => have := Z7.out; omega
        case rel => exact ⟨_, rs, H', ⟨by have := Z7.out; omega⟩, ⟨bq⟩⟩
       ·rw [if_neg Z21] at H
        have Z22 : (Op.bytesLess (((rd_T32 l0 (Z16)).f0).toList) (((rd_T32 l0 Z6).f0).toList)) = false := by simpa using Z21
        clear Z21
        obtain rfl := Option.some.inj H
        have Z23 : 0 ≤ (Z6 : Int) := od
        have Z24 : Z6 < (l0.length : Int) := od
        obtain ⟨Z25, Z26, Z27, Z28, Z29, Z30, Z31, Z32⟩ := at_T32 Z1.out Z6 Z23 Z24
        cases Z28
        replace Z29 := hc HB Z29
        replace Z30 := hc HB Z30
        have Z33 := ra Z32
        have Z34 := ra Z31
        clear Z32 Z31
        replace Z23 := eq_true Z23
        replace Z24 := eq_true Z24
        try go_wp2_with (first | ((with_reducible refine gd 4 rfl ?_); refine bd 4 #[.string (⟨#[]⟩ : ByteArray), .slice none 0 0] 32 ?_; intro Z35 Z36 HB Z37 Z38; obtain ⟨Z39, Z40, Z41, Z42⟩ := zc2 Z37))
        have Z43 : Aside0 (((Z36.setCell ⟨Z35, 0, none⟩ (.string ((rd_T32 l0 Z6).f0))).setCell ⟨Z35, 1, none⟩ (.slice Z26 ((rd_T32 l0 Z6).f1).length Z27)).heap[Z35]? = some (.cells #[.string ((rd_T32 l0 Z6).f0), .slice Z26 ((rd_T32 l0 Z6).f1).length Z27] 32 (0, 0))) := ⟨bp Z37⟩
        have Z44 : Aside0 (Below w.heap.size w ((Z36.setCell ⟨Z35, 0, none⟩ (.string ((rd_T32 l0 Z6).f0))).setCell ⟨Z35, 1, none⟩ (.slice Z26 ((rd_T32 l0 Z6).f1).length Z27))) := ⟨bq⟩
        (try clear Z37)
        (try clear HB)
        generalize ((Z36.setCell ⟨Z35, 0, none⟩ (.string ((rd_T32 l0 Z6).f0))).setCell ⟨Z35, 1, none⟩ (.slice Z26 ((rd_T32 l0 Z6).f1).length Z27)) = Z45 at Z43 Z44 ⊢
        have Z37 := Z43
        have HB := Z44
        clear Z43 Z44
        have _ := ra (blk_drew Z37.out)
        have _ := ra (below_drew1 HB.out)
        clear Z37 HB
        rename_i Z37 HB
        have Z46 : 0 ≤ ((Z16) : Int) := od
        have Z47 : (Z16) < (l0.length : Int) := od
        obtain ⟨Z48, Z49, Z50, Z51, Z52, Z53, Z54, Z55⟩ := at_T32 Z1.out (Z16) Z46 Z47
        have Z56 := Z53
        have Z57 := Z52
        obtain rfl : Z25 = Z48 := (by injection Z51)
        replace Z52 := hc HB Z52
        replace Z53 := hc HB Z53
        have Z58 := ra Z55
        have Z59 := ra Z54
        clear Z55 Z54
        replace Z46 := eq_true Z46
        replace Z47 := eq_true Z47
        refine start_ (n := 18) (S := fun w' => w'.cell? ⟨Z35, 0, none⟩ = some (.string ((rd_T32 l0 Z6).f0)) ∧ w'.cell? ⟨Z35, 1, none⟩ = some (.slice Z26 ((rd_T32 l0 Z6).f1).length Z27) ∧ w'.cell? (Z25.add (((Z16)).toNat * 2)) = some (.string ((rd_T32 l0 (Z16)).f0)) ∧ w'.cell? ⟨(Z25.add (((Z16)).toNat * 2)).block, (Z25.add (((Z16)).toNat * 2)).off + 1, none⟩ = some (.slice Z49 ((rd_T32 l0 (Z16)).f1).length Z50)) (ds := []) (bl 18 0) (by kernel_rfl) rfl rfl ⟨(blk_cell Z37.out 0).trans rfl, (blk_cell Z37.out 1).trans rfl, (hc HB Z57), (hc HB Z56)⟩ (fun hHeld => ?_); refine with_tabW impl_ProbeSkyOk.tab6 impl_ProbeSkyOk.bits6 (fun HT_ HW_ => ?_)
        generalize Z45.drew = Z60 at Z37 HB Z58 Z52 Z53 hHeld ⊢
        refine tk 0 15 (bl 18 1) ?_ hHeld
        refine oe 1 16 (bl 18 3) (fun K hK => ?_)
        refine gs Tryz.func43 #[.agg #[.string ((rd_T32 l0 Z6).f0), .slice Z26 ((rd_T32 l0 Z6).f1).length Z27]] ?_
        with_reducible refine (impl_ProbeTubeOk.calls Z8 ((rd_T32 l0 Z6).f0) _ _ ((rd_T32 l0 Z6).f1) true _ ?side1 ?side2 Z13.out).mono ?_
        (case side1 => exact sc Z33)
        (case side2 => exact Z34.out)
        rintro e Z61 ⟨rfl, hb⟩
        refine ⟨_, rfl, ?_⟩
        have _ := bb (bk Z37) hb
        have _ := bs hb
        clear Z37 HB
        rename_i Z37 HB
        (try clear hb)
        refine hK.out _ _ ⟨(blk_cell Z37.out 0).trans rfl, (blk_cell Z37.out 1).trans rfl, (hc HB Z57), (hc HB Z56)⟩ (fun hHeld => ?_)
        clear hK K
        refine nm 16 ?_
        refine pu 2 17 (bl 18 7) ?_
        refine pu 3 18 (bl 18 15) ?_
        refine pu 4 19 (bl 18 31) ?_
        refine pu 5 20 (bl 18 63) ?_
        refine pu 6 21 (bl 18 127) ?_
        refine pu 7 22 (bl 18 255) ?_
        refine pu 8 23 (bl 18 511) ?_
        refine pu 9 24 (bl 18 1023) ?_
        refine pu 10 25 (bl 18 2047) ?_
        refine pu 11 26 (bl 18 4095) ?_
        refine pu 13 28 (bl 18 12287) ?_
        refine tk 12 27 (bl 18 16383) ?_ hHeld
        refine tk 14 29 (bl 18 32767) ?_ hHeld
        refine pu 15 30 (bl 18 65535) ?_
        refine pu 16 31 (bl 18 131071) ?_
        refine pu 17 32 (bl 18 262143) ?_
        refine done_ (done_of HT_.out (by kernel_rfl)) ?_
        try go_wp2
        go_ret
        exact ⟨by first | rfl | (simp [errW_none, errW_some] <;> rfl) | (simp only [← Z17]; first | rfl | (simp [errW_none, errW_some] <;> rfl)) | (simp [*, errW_none, errW_some] <;> rfl), bq⟩
      ·have H' := ra H; clear H
       have Z16 : 0 ≤ (Z6 : Int) := od
       have Z17 : Z6 < (l0.length : Int) := od
       obtain ⟨Z18, Z19, Z20, Z21, Z22, Z23, Z24, Z25⟩ := at_T32 Z1.out Z6 Z16 Z17
       cases Z21
       replace Z22 := hc HB Z22
       replace Z23 := hc HB Z23
       have Z26 := ra Z25
       have Z27 := ra Z24
       clear Z25 Z24
       replace Z16 := eq_true Z16
       replace Z17 := eq_true Z17
       try go_wp2_with (first | ((with_reducible refine gd 4 rfl ?_); refine bd 4 #[.string (⟨#[]⟩ : ByteArray), .slice none 0 0] 32 ?_; intro Z28 Z29 HB Z30 Z31; obtain ⟨Z32, Z33, Z34, Z35⟩ := zc2 Z30))
       have Z36 : Aside0 (((Z29.setCell ⟨Z28, 0, none⟩ (.string ((rd_T32 l0 Z6).f0))).setCell ⟨Z28, 1, none⟩ (.slice Z19 ((rd_T32 l0 Z6).f1).length Z20)).heap[Z28]? = some (.cells #[.string ((rd_T32 l0 Z6).f0), .slice Z19 ((rd_T32 l0 Z6).f1).length Z20] 32 (0, 0))) := ⟨bp Z30⟩
       have Z37 : Aside0 (Below w.heap.size w ((Z29.setCell ⟨Z28, 0, none⟩ (.string ((rd_T32 l0 Z6).f0))).setCell ⟨Z28, 1, none⟩ (.slice Z19 ((rd_T32 l0 Z6).f1).length Z20))) := ⟨bq⟩
       (try clear Z30)
       (try clear HB)
       generalize ((Z29.setCell ⟨Z28, 0, none⟩ (.string ((rd_T32 l0 Z6).f0))).setCell ⟨Z28, 1, none⟩ (.slice Z19 ((rd_T32 l0 Z6).f1).length Z20)) = Z38 at Z36 Z37 ⊢
       have Z30 := Z36
       have HB := Z37
       clear Z36 Z37
       have _ := ra (blk_drew Z30.out)
       have _ := ra (below_drew1 HB.out)
       clear Z30 HB
       rename_i Z30 HB
       refine start_ (n := 18) (S := fun w' => w'.cell? ⟨Z28, 0, none⟩ = some (.string ((rd_T32 l0 Z6).f0)) ∧ w'.cell? ⟨Z28, 1, none⟩ = some (.slice Z19 ((rd_T32 l0 Z6).f1).length Z20)) (ds := []) (bl 18 0) (by kernel_rfl) rfl rfl ⟨(blk_cell Z30.out 0).trans rfl, (blk_cell Z30.out 1).trans rfl⟩ (fun hHeld => ?_); refine with_tabW impl_ProbeSkyOk.tab6 impl_ProbeSkyOk.bits6 (fun HT_ HW_ => ?_)
       generalize Z38.drew = Z39 at Z30 HB hHeld ⊢
       refine tk 0 15 (bl 18 1) ?_ hHeld
       refine oe 1 16 (bl 18 3) (fun K hK => ?_)
       refine gs Tryz.func43 #[.agg #[.string ((rd_T32 l0 Z6).f0), .slice Z19 ((rd_T32 l0 Z6).f1).length Z20]] ?_
       with_reducible refine (impl_ProbeTubeOk.calls Z8 ((rd_T32 l0 Z6).f0) _ _ ((rd_T32 l0 Z6).f1) true _ ?side1 ?side2 Z13.out).mono ?_
       (case side1 => exact sc Z26)
       (case side2 => exact Z27.out)
       rintro e Z40 ⟨rfl, hb⟩
       refine ⟨_, rfl, ?_⟩
       have _ := bb (bk Z30) hb
       have _ := bs hb
       clear Z30 HB
       rename_i Z30 HB
       (try clear hb)
       refine hK.out _ _ ⟨(blk_cell Z30.out 0).trans rfl, (blk_cell Z30.out 1).trans rfl⟩ (fun hHeld => ?_)
       clear hK K
       refine nm 16 ?_
       refine pu 2 17 (bl 18 7) ?_
       refine pu 3 18 (bl 18 15) ?_
       refine pu 4 19 (bl 18 31) ?_
       refine pu 5 20 (bl 18 63) ?_
       refine pu 6 21 (bl 18 127) ?_
       refine pv 7 22 (bl 18 255) ?_
       refine pv 8 23 (bl 18 511) ?_
       refine pv 9 24 (bl 18 1023) ?_
       refine pv 10 25 (bl 18 2047) ?_
       refine pv 11 26 (bl 18 4095) ?_
       refine pv 12 27 (bl 18 8191) ?_
       refine pv 13 28 (bl 18 16383) ?_
       refine pv 14 29 (bl 18 32767) ?_
       refine pv 15 30 (bl 18 65535) ?_
       refine pu 16 31 (bl 18 131071) ?_
       refine pu 17 32 (bl 18 262143) ?_
       refine done_ (done_of HT_.out (by kernel_rfl)) ?_
       try go_wp2
       go_roundg Z8
       case measure => have := Z7.out; omega
       case rel => exact ⟨_, rs, H', ⟨by have := Z7.out; omega⟩, ⟨bq⟩⟩
     ·obtain rfl := Option.some.inj H
      have Z15 : 0 ≤ (Z6 : Int) := od
      have Z16 : Z6 < (l0.length : Int) := od
      obtain ⟨Z17, Z18, Z19, Z20, Z21, Z22, Z23, Z24⟩ := at_T32 Z1.out Z6 Z15 Z16
      cases Z20
      replace Z21 := hc HB Z21
      replace Z22 := hc HB Z22
      have Z25 := ra Z24
      have Z26 := ra Z23
      clear Z24 Z23
      replace Z15 := eq_true Z15
      replace Z16 := eq_true Z16
      try go_wp2_with (first | ((with_reducible refine gd 4 rfl ?_); refine bd 4 #[.string (⟨#[]⟩ : ByteArray), .slice none 0 0] 32 ?_; intro Z27 Z28 HB Z29 Z30; obtain ⟨Z31, Z32, Z33, Z34⟩ := zc2 Z29))
      have Z35 : Aside0 (((Z28.setCell ⟨Z27, 0, none⟩ (.string ((rd_T32 l0 Z6).f0))).setCell ⟨Z27, 1, none⟩ (.slice Z18 ((rd_T32 l0 Z6).f1).length Z19)).heap[Z27]? = some (.cells #[.string ((rd_T32 l0 Z6).f0), .slice Z18 ((rd_T32 l0 Z6).f1).length Z19] 32 (0, 0))) := ⟨bp Z29⟩
      have Z36 : Aside0 (Below w.heap.size w ((Z28.setCell ⟨Z27, 0, none⟩ (.string ((rd_T32 l0 Z6).f0))).setCell ⟨Z27, 1, none⟩ (.slice Z18 ((rd_T32 l0 Z6).f1).length Z19))) := ⟨bq⟩
      (try clear Z29)
      (try clear HB)
      generalize ((Z28.setCell ⟨Z27, 0, none⟩ (.string ((rd_T32 l0 Z6).f0))).setCell ⟨Z27, 1, none⟩ (.slice Z18 ((rd_T32 l0 Z6).f1).length Z19)) = Z37 at Z35 Z36 ⊢
      have Z29 := Z35
      have HB := Z36
      clear Z35 Z36
      have _ := ra (blk_drew Z29.out)
      have _ := ra (below_drew1 HB.out)
      clear Z29 HB
      rename_i Z29 HB
      refine start_ (n := 18) (S := fun w' => w'.cell? ⟨Z27, 0, none⟩ = some (.string ((rd_T32 l0 Z6).f0)) ∧ w'.cell? ⟨Z27, 1, none⟩ = some (.slice Z18 ((rd_T32 l0 Z6).f1).length Z19)) (ds := []) (bl 18 0) (by kernel_rfl) rfl rfl ⟨(blk_cell Z29.out 0).trans rfl, (blk_cell Z29.out 1).trans rfl⟩ (fun hHeld => ?_); refine with_tabW impl_ProbeSkyOk.tab6 impl_ProbeSkyOk.bits6 (fun HT_ HW_ => ?_)
      generalize Z37.drew = Z38 at Z29 HB hHeld ⊢
      refine tk 0 15 (bl 18 1) ?_ hHeld
      refine oe 1 16 (bl 18 3) (fun K hK => ?_)
      refine gs Tryz.func43 #[.agg #[.string ((rd_T32 l0 Z6).f0), .slice Z18 ((rd_T32 l0 Z6).f1).length Z19]] ?_
      with_reducible refine (impl_ProbeTubeOk.calls Z8 ((rd_T32 l0 Z6).f0) _ _ ((rd_T32 l0 Z6).f1) false _ ?side1 ?side2 Z13.out).mono ?_
      (case side1 => exact sc Z25)
      (case side2 => exact Z26.out)
      rintro e Z39 ⟨rfl, hb⟩
      refine ⟨_, rfl, ?_⟩
      have _ := bb (bk Z29) hb
      have _ := bs hb
      clear Z29 HB
      rename_i Z29 HB
      (try clear hb)
      refine hK.out _ _ ⟨(blk_cell Z29.out 0).trans rfl, (blk_cell Z29.out 1).trans rfl⟩ (fun hHeld => ?_)
      clear hK K
      refine nm 16 ?_
      refine pu 2 17 (bl 18 7) ?_
      refine pu 3 18 (bl 18 15) ?_
      refine pv 4 19 (bl 18 31) ?_
      refine pv 5 20 (bl 18 63) ?_
      refine pv 6 21 (bl 18 127) ?_
      refine pv 7 22 (bl 18 255) ?_
      refine pv 8 23 (bl 18 511) ?_
      refine pv 9 24 (bl 18 1023) ?_
      refine pv 10 25 (bl 18 2047) ?_
      refine pv 11 26 (bl 18 4095) ?_
      refine pv 12 27 (bl 18 8191) ?_
      refine pv 13 28 (bl 18 16383) ?_
      refine pv 14 29 (bl 18 32767) ?_
      refine pv 15 30 (bl 18 65535) ?_
      refine pv 16 31 (bl 18 131071) ?_
      refine pu 17 32 (bl 18 262143) ?_
      refine done_ (done_of HT_.out (by kernel_rfl)) ?_
      try go_wp2
      go_ret
      exact ⟨re, bq⟩
    ·obtain rfl := Option.some.inj H
     go_wp2
     go_ret
     exact ⟨re, bq⟩
def impl_copyTube.T1 : Bool × List (List Nat × List Nat) := (true, [([], []), ([0], [0]), ([], []), ([], []), ([3], [3]), ([2, 4], [2, 4]), ([1, 5], [1, 5]), ([6, 5, 0, 1, 2, 3, 4, 5, 6], [6])])
def impl_copyTube.B1 : List Nat := [0, 1, 0, 0, 8, 28, 63, 127]
theorem impl_copyTube.tab1 : rtab .any (opsOf Tryz.f44 1) = impl_copyTube.T1 := by kernel_rfl
theorem impl_copyTube.bits1 : waitsOk impl_copyTube.T1.2 impl_copyTube.B1 = true := by kernel_rfl
theorem impl_copyTube.calls (a0_0 : ByteArray) (A0_1 : Option Addr) (c0_1 : Nat) (l0_1 : List (S75)) (r1 : ByteArray) (r2 : List (S75)) (w : World) (hr0_1 : Kd.C k75 w A0_1 l0_1.length l0_1) (hc0_1 : l0_1.length ≤ c0_1) (h : impl_copyTube.f a0_0 l0_1 = some (r1, r2)) :
  Calls Tryz.prog 44 #[.agg #[.string a0_0, .slice A0_1 l0_1.length c0_1]] w fun e w' => ∃ v1_ : Value, e = .returned (.agg #[.string r1, v1_]) ∧ Kd.R k75 75 w' w.heap.size (fun _ => True) v1_ r2 ∧ Below w.heap.size w w' := by
 have Z0 := Tryz.underlying32
 have Z1 := ra hr0_1
 have Z2 := ra hc0_1
 clear hr0_1 hc0_1
 have HB := ra (Below.refl w.heap.size w)
 have H := h; unfold impl_copyTube.f at H
 clear h
 obtain ⟨Z3, hy_⟩ : ∃ y_ : List (S75), y_ = (([] : List (S75))) := ⟨_, rfl⟩
 replace H : (if Z3.length + l0_1.length < 2932031007402 then (some (a0_0, (Z3 ++ l0_1))) else (none)) = some (r1, r2) := yh
 have Z4 := ra hy_
 clear hy_
 by_cases Z5 : Z3.length + l0_1.length < 2932031007402
 ·rw [if_pos Z5] at H
  have Z6 := ra Z5; clear Z5
  obtain ⟨Z7, hy_⟩ : ∃ y_ : List (S75), y_ = (Z3 ++ l0_1) := ⟨_, rfl⟩
  replace H : (some (a0_0, Z7)) = some (r1, r2) := yh
  have Z8 := ra hy_
  clear hy_
  simp only [Option.some.injEq, Prod.mk.injEq] at H
  obtain ⟨rfl, rfl⟩ := H
  go_enter Tryz.func44, Tryz.ntmps44
  try go_wp2_with (first | ((with_reducible refine gd 1 rfl ?_); refine bd 1 #[.string a0_0, .slice A0_1 l0_1.length c0_1] 32 ?_; intro Z9 Z10 HB Z11 Z12) | ((with_reducible refine gd 2 rfl ?_); refine bf 2 #[.string (⟨#[]⟩ : ByteArray), .slice none 0 0] 32 ?_; intro Z13 Z14 hg hb HB Z15 Z16; have Z17 := bn hg (bk Z11); have Z18 := bm hg (bk Z11); replace Z11 := bb (bk Z11) hb; clear hg hb))
  have _ := ra (blk_drew Z11.out)
  have _ := ra (blk_drew Z15.out)
  have _ := ra (below_drew1 HB.out)
  clear Z11 Z15 HB
  rename_i Z11 Z15 HB
  refine start_ (n := 8) (S := fun w' => w'.cell? ⟨Z9, 0, none⟩ = some (.string a0_0) ∧ w'.cell? ⟨Z9, 1, none⟩ = some (.slice A0_1 l0_1.length c0_1)) (ds := []) (bl 8 0) (by kernel_rfl) rfl rfl ⟨(blk_cell Z11.out 0).trans rfl, (blk_cell Z11.out 1).trans rfl⟩ (fun hHeld => ?_); refine with_tabW impl_copyTube.tab1 impl_copyTube.bits1 (fun HT_ HW_ => ?_)
  generalize Z14.drew = Z19 at Z11 Z15 HB hHeld ⊢
  refine pu 0 3 (bl 8 1) ?_
  refine pu 3 6 (bl 8 9) ?_
  refine tk 1 4 (bl 8 11) ?_ hHeld
  refine tk 4 7 (bl 8 27) ?_ hHeld
  refine oe 2 5 (bl 8 31) (fun K hK => ?_)
  refine Kd.R_lit_step k75 _ 75 ?hg (N := 5) ?hd (xs := ([] : List (S75))) (inner := []) (ok := fun _ => True) (okp := fun _ => True) ?hr ?hp (fun _ hk => hk) trivial (Below.refl _ _) (Nat.le_refl _) (by simp) ?_; (case hd => rfl); (case hg => rfl); (case hr => first | (go_simp; done) | (go_simp; rfl)); (case hp => exact (Reps.none _ _))
  intro Z20 Z21 Z22 hb hg_ hnew_
  clear hg_ hnew_
  (first | rw [← Z4.out] at Z22 | (simp only [Int.reduceToNat] at Z22; rw [← Z4.out] at Z22))
  have _ := ra (Kd.R_lower Z22 (below_size bq))
  have _ := bb (bk Z11) hb
  have _ := bb (bk Z15) hb
  have _ := bs hb
  clear Z11 Z15 HB
  rename_i Z23 Z11 Z15 HB
  clear hb Z22
  refine hK.out _ _ ⟨(blk_cell Z11.out 0).trans rfl, (blk_cell Z11.out 1).trans rfl⟩ (fun hHeld => ?_)
  clear hK K
  refine nm 5 ?_
  refine oe 5 8 (bl 8 63) (fun K hK => ?_)
  refine Kd.R_append_rows_step k75 (w0 := w) w.heap.size (by rfl) (.tmp 5) (.tmp 7) 30 75 (.agg #[(.int .i64 0), (.int .i64 0), (.int .i64 0), (.int .i64 0), (.int .i64 0), (.int .i64 0)]) 48 rfl Tryz.underlying30 info75 rfl (by decide) (by omega) Z20 Z3 l0_1 _ _ _ (fun _ => True) (fun _ => False) rfl rfl ?aO ?aR (fun _ _ h => h) (fun _ h => h.elim) ?aF ?aB ?aS ?aL ?_
  (case aR => exact sc Z1)
  (case aB => exact bq)
  (case aF => exact (fun _ _ => trivial))
  (case aO => exact (rq Z23))
  (case aS => exact (below_size bq))
  (case aL => have := Z6.out; omega)
  intro Z24 Z25 ho hb hg hat
  rw [← Z8.out] at ho
  have _ := ra (blk_grown (g := Z9) (o := .cells #[.string a0_0, .slice A0_1 l0_1.length c0_1] 32 (0, 0)) (bk Z11) hg (Kd.R_ne Z23.out Z11.out (by decide)))
  have _ := ra (blk_grown (g := Z13) (o := .cells #[.string (⟨#[]⟩ : ByteArray), .slice none 0 0] 32 (0, 0)) (bk Z15) hg (Kd.R_ne Z23.out Z15.out (by decide)))
  have _ := ra (hb)
  have _ := ra (ho)
  clear Z11 Z15 HB Z23
  rename_i Z11 Z15 HB Z26
  clear ho hb hg hat
  obtain ⟨Z27, Z28, Z29⟩ := Kd.R_slice Z26.out
  (first | subst Z29 | (injection Z29 with f1_ f2_ f3_; have Z30 := f1_.symm; have Z31 := f3_.symm; clear f1_ f2_ f3_; subst Z30; subst Z31))
  refine hK.out _ _ ⟨(blk_cell Z11.out 0).trans rfl, (blk_cell Z11.out 1).trans rfl⟩ (fun hHeld => ?_)
  clear hK K
  refine nm 8 ?_
  refine pu 6 9 (bl 8 127) ?_
  refine one_ (i := 7) (N := none) #[true, true, true, true, true, true, true, true] rfl rfl (one_of HT_.out (by kernel_rfl)) (by decide) (fun K hK => ?_)
  have Z32 : Z25.cell? ⟨Z13, 0, none⟩ = some (.string (⟨#[]⟩ : ByteArray)) := (blk_cell Z15.out 0).trans rfl
  have Z33 := blk_frozen Z15.out 0
  have Z34 := Z17.out
  have Z35 := Z18.out
  have Z36 : Z25.cell? ⟨Z13, 1, none⟩ = some (.slice none 0 0) := (blk_cell Z15.out 1).trans rfl
  have Z37 := blk_frozen Z15.out 1
  have Z38 := Z17.out
  have Z39 := Z18.out
  refine skip_ (w1 := ?_) (by rfl) rfl ?_ ?_
  rotate_left
  ·go_simp
   rfl
  refine hK.out _ _ ⟨cf hHeld.1, cf hHeld.2⟩ (fun hHeld => ?_)
  clear hK K
  refine done_ (done_of HT_.out (by kernel_rfl)) ?_
  try go_wp2
  refine bodyPost_ret (results_cell_row rfl _ _ Z13 32 #[.string a0_0, .slice Z27 Z7.length Z28] (0, 0) _ rfl (bp Z15) Tryz.underlying32 rfl (by kernel_rfl)) rfl ?_
  exact ⟨_, re, by (with_reducible repeat (first | apply Kd.R_alloc | apply Kd.R_drewN | apply Kd.R_drew)); exact Kd.R_mono (rf (Kd.R_types Z26.out Z15.out (by decide))) (fun _ hk => trivial), bq⟩
 ·rw [if_neg Z5] at H
  exact absurd H (by simp)
theorem impl_copyTubes.calls (k : Nat) (A0 : Option Addr) (c0 : Nat) (l0 r : List (S32)) (w : World) (hr0 : Kd.C k32 w A0 l0.length l0) (hc0 : l0.length ≤ c0) (h : impl_copyTubes.f k l0 = some r) :
  Calls Tryz.prog 40 #[.slice A0 l0.length c0] w fun e w' => ∃ v0_ : Value, e = .returned (v0_) ∧ Kd.S k32 32 w' w.heap.size (fun _ => True) v0_ r ∧ Below w.heap.size w w' := by
 have Z0 := Tryz.underlying32
 have Z1 := ra hr0
 have Z2 := ra hc0
 clear hr0 hc0
 have HB := ra (Below.refl w.heap.size w)
 have H := h; unfold impl_copyTubes.f at H
 clear h
 obtain ⟨Z3, hy_⟩ : ∃ y_ : List (S32), y_ = (([] : List (S32))) := ⟨_, rfl⟩
 replace H : (impl_copyTubes.l0 k Z3 l0 (l0.length : Int) 0) = some r := yh
 have Z4 := ra hy_
 clear hy_
 have H' := ra H; clear H
 go_enter Tryz.func40, Tryz.ntmps40
 go_wp2_with (first | ((with_reducible refine gd 6 rfl ?_); refine Kd.S_lit k32 _ 32 ?hg (N := 6) ?hd (xs := ([] : List (S32))) (inner := []) (ok := fun _ => True) (okp := fun _ => True) ?hr ?hp (fun _ hk => hk) trivial (Below.refl _ _) (Nat.le_refl _) (by simp) ?_; (case hd => rfl); (case hg => rfl); (case hr => first | (go_simp; done) | (go_simp; rfl)); (case hp => exact (Reps.none _ _)); intro Z5 Z6 Z7 hb hg_ hnew_; clear hg_ hnew_; (first | rw [← Z4.out] at Z7 | (simp only [Int.reduceToNat] at Z7; rw [← Z4.out] at Z7)); have Z8 := ra (Kd.S_lower Z7 (below_size bq)); replace HB := bs hb; clear hb Z7))
 go_loopg [3, 9] k (fun kq v3 v9 w' => ∃ (x3_1 : List (S32)) (x9_1 : Int), v9 = .int .i64 x9_1 ∧ Aside0 (impl_copyTubes.l0 kq x3_1 l0 (l0.length : Int) x9_1 = some r) ∧ Aside0 (kq ≤ k) ∧ Aside0 (Kd.S k32 32 w' w.heap.size (fun _ => True) v3 x3_1) ∧ Aside0 (Below w.heap.size w w'))
 case atStart => exact ⟨(Z3), (0), rs, H', ⟨Nat.le_refl _⟩, ⟨by (with_reducible repeat (first | apply Kd.S_alloc | apply Kd.S_drewN | apply Kd.S_drew)); exact Z8.out⟩, ⟨bq⟩⟩
 case round =>
  clear H'
  obtain ⟨Z9, Z10, rfl, HA, Z11, Z12, HB⟩ := hrel
  cases gk with
  | zero => exact absurd HA.out (by simp [impl_copyTubes.l0])
  | succ Z13 =>
   have H := HA.out
   clear HA
   simp only [impl_copyTubes.l0] at H
   rcases td H with ⟨Z14, H⟩ | ⟨Z14, H⟩
   ·obtain ⟨Z15, H⟩ := tn H
    obtain ⟨Z16, H⟩ := tn H
    obtain ⟨⟨Z17, Z18⟩, Z19, H⟩ := bo H
    try dsimp only at H
    by_cases Z20 : Z9.length < 3518437208883
    ·rw [if_pos Z20] at H
     have Z21 := ra Z20; clear Z20
     obtain ⟨Z22, hy_⟩ : ∃ y_ : List (S32), y_ = (Z9 ++ [(⟨Z17, Z18⟩ : S32)]) := ⟨_, rfl⟩
     replace H : (impl_copyTubes.l0 Z13 Z22 l0 (l0.length : Int) (wrap64 (Z10 + 1))) = some r := yh
     have Z23 := ra hy_
     clear hy_
     have H' := ra H; clear H
     have Z24 : 0 ≤ (Z10 : Int) := od
     have Z25 : Z10 < (l0.length : Int) := od
     obtain ⟨Z26, Z27, Z28, Z29, Z30, Z31, Z32, Z33⟩ := at_T32 Z1.out Z10 Z24 Z25
     cases Z29
     replace Z30 := hc HB Z30
     replace Z31 := hc HB Z31
     have Z34 := ra Z33
     have Z35 := ra Z32
     clear Z33 Z32
     replace Z24 := eq_true Z24
     replace Z25 := eq_true Z25
     go_wp2_with (first | ((with_reducible refine gd 5 rfl ?_); refine bf 5 #[.string (⟨#[]⟩ : ByteArray), .slice none 0 0] 32 ?_; intro Z36 Z37 hg hb HB Z38 Z39; replace Z12 := ra (Kd.S_below (Kd.S_elderB (by (with_reducible repeat (first | apply Kd.S_alloc | apply Kd.S_drewN | apply Kd.S_drew)); exact Z12.out) Z36 (Nat.le_of_eq hg.symm)) hb); obtain ⟨Z40, Z41, Z42, Z43⟩ := zc2 Z38; clear hg hb) | ((with_reducible refine gc 44 rfl ?_); refine gx (some 15) Tryz.func44 (impl_copyTube.calls _ _ _ _ _ _ _ (Kd.C_below Z34.out bq) Z35.out Z19.out) ?_; rintro Z44 Z45 ⟨Z46, hb⟩; have Z47 := ra (Kd.R_lower Z46 (below_size bq)); replace Z12 := ra (Kd.S_elder' (by (with_reducible repeat (first | apply Kd.S_alloc | apply Kd.S_drewN | apply Kd.S_drew)); exact (Kd.S_mono (Kd.S_far (p := ⟨Z36, 1, none⟩) (Kd.S_far (p := ⟨Z36, 0, none⟩) (Kd.S_mono Z12.out (fun k_ hk => (⟨hk, hk.2⟩ : _ ∧ k_ ≠ Z36))) (fun _ hk => hk.2) (.string ((rd_T32 l0 Z10).f0))) (fun _ hk => hk.2) (.slice Z27 ((rd_T32 l0 Z10).f1).length Z28)) (fun _ h_ => h_.1))) (Kd.R_base Z46) hb); replace Z38 := bb (o := .cells #[.string ((rd_T32 l0 Z10).f0), .slice Z27 ((rd_T32 l0 Z10).f1).length Z28] 32 (0, 0)) (bp Z38) hb; replace HB := bs hb; clear hb Z46; obtain ⟨Z48, Z49, Z50⟩ := Kd.R_slice Z47.out; subst Z50) | ((with_reducible refine gate_builtin (b := .append) (xs := #[.tmp 13, .tmp 16]) rfl ?_); at_builtin; refine Kd.S_append k32 (w0 := w) w.heap.size rfl (.tmp 13) (.tmp 16) 25 32 (.agg #[(.string ⟨#[]⟩), (.slice none 0 0)]) 40 rfl Tryz.underlying25 info32 rfl (by decide) (by omega) u3 Z9 (⟨Z17, Z18⟩ : S32) [.string Z17, .slice Z48 Z18.length Z49] (fun k_ => k_ ≠ Z36) (fun k_ => some k_ = (.slice Z48 Z18.length Z49 : Value).ownBlock) rfl rfl ?aP (fun k_ hk_ => ((Kd.R_mono (ok' := fun k_ => ((fun k_ => k_ ≠ Z36)) k_ ∧ some k_ ≠ (u3 : Value).ownBlock) (Kd.R_types (Kd.R_apart' (Z47.out) (Kd.S_typed Z12.out) (by decide)) Z38.out (by decide)) (fun k_ hk => ⟨hk.2, hk.1.2⟩))).1 k_ hk_.symm) ?aF ?aO ?aB ?aS ?aL ?_; (case aP => exact k32_mkM _ _ _ (⟨Z17, Z18⟩ : S32) (Kd.R_mono (Kd.R_tight rfl (Kd.R_mono (ok' := fun k_ => ((fun k_ => k_ ≠ Z36)) k_ ∧ some k_ ≠ (u3 : Value).ownBlock) (Kd.R_types (Kd.R_apart' (Z47.out) (Kd.S_typed Z12.out) (by decide)) Z38.out (by decide)) (fun k_ hk => ⟨hk.2, hk.1.2⟩))) (fun _ h_ => h_))); (case aB => exact bq); (case aF => exact (fun k_ hk => Kd.freshB (g := Z36) (o := .cells #[.string ((rd_T32 l0 Z10).f0), .slice Z27 ((rd_T32 l0 Z10).f1).length Z28] 32 (0, 0)) (bk Z38) k_ hk)); (case aO => exact (by (with_reducible repeat (first | apply Kd.S_alloc | apply Kd.S_drewN | apply Kd.S_drew)); exact Kd.S_mono Z12.out (fun k_ hk => ⟨hk.1.2, fun e_ => hk.2 e_⟩))); (case aS => exact (below_size bq)); (case aL => have := Z21.out; omega); intro Z51 Z52 ho hb hg hat; rw [← Z23.out] at ho; have _ := ra (blk_grown (g := Z36) (o := .cells #[.string ((rd_T32 l0 Z10).f0), .slice Z27 ((rd_T32 l0 Z10).f1).length Z28] 32 (0, 0)) (bk Z38) hg (Kd.S_away Z12.out (fun _ hk => hk.1.2))); have _ := ra (hb); have _ := ra (ho); clear Z38 HB Z12 Z47; rename_i Z38 HB Z53; clear ho hb hg hat))
     go_roundg Z13
     case measure => have := Z11.out; omega
     case rel => exact ⟨_, _, rs, H', ⟨by have := Z11.out; omega⟩, ⟨by (with_reducible repeat (first | apply Kd.S_alloc | apply Kd.S_drewN | apply Kd.S_drew)); exact Kd.S_mono Z53.out (fun _ hk => trivial)⟩, ⟨bq⟩⟩
    ·rw [if_neg Z20] at H
     exact absurd H (by simp)
   ·obtain rfl := Option.some.inj H
    go_wp2
    go_ret
    exact ⟨_, re, by (with_reducible repeat (first | apply Kd.S_alloc | apply Kd.S_drewN | apply Kd.S_drew)); exact Z12.out, bq⟩
def impl_ProbeHappen.T5 : Bool × List (List Nat × List Nat) := (true, [([], []), ([], []), ([1], [1]), ([0, 2], [0, 2]), ([3], [3]), ([4], [4]), ([4], [4]), ([5, 6, 4], [4, 5, 6]), ([7, 4], [4, 7]), ([8, 4], [4, 8]), ([4], [4]), ([10, 4], [4, 10]), ([11, 4], [4, 11]), ([9, 12, 4], [4, 9, 12]), ([4, 13], [4, 13]), ([14, 4, 0, 1, 2, 3, 4, 5, 6, 7, 8, 9, 10, 11, 12, 13, 14], [14])])
def impl_ProbeHappen.B5 : List Nat := [0, 0, 2, 7, 15, 31, 31, 127, 255, 511, 31, 1055, 3103, 8191, 16383, 32767]
theorem impl_ProbeHappen.tab5 : rtab .any (opsOf Tryz.f7 5) = impl_ProbeHappen.T5 := by kernel_rfl
theorem impl_ProbeHappen.bits5 : waitsOk impl_ProbeHappen.T5.2 impl_ProbeHappen.B5 = true := by kernel_rfl
def impl_ProbeHappen.T11 : Bool × List (List Nat × List Nat) := (true, [([], []), ([], []), ([0, 1], [0, 1]), ([], []), ([], []), ([4], [4]), ([3, 5], [3, 5]), ([2, 6], [2, 6]), ([7, 7, 0, 1, 2, 3, 4, 5, 6, 7], [7]), ([8, 0, 1, 2, 3, 4, 5, 6, 7, 8], [])])
def impl_ProbeHappen.B11 : List Nat := [0, 0, 3, 0, 0, 16, 56, 127, 255, 511]
theorem impl_ProbeHappen.tab11 : rtab .any (opsOf Tryz.f7 11) = impl_ProbeHappen.T11 := by kernel_rfl
theorem impl_ProbeHappen.bits11 : waitsOk impl_ProbeHappen.T11.2 impl_ProbeHappen.B11 = true := by kernel_rfl
def impl_ProbeHappen.T17 : Bool × List (List Nat × List Nat) := (true, [([], []), ([0], [0]), ([1], [1]), ([2], [2]), ([], []), ([], []), ([4, 5], [4, 5]), ([3, 6, 2], [3, 6]), ([7, 7, 0, 1, 2, 3, 4, 5, 6, 7], [7])])
def impl_ProbeHappen.B17 : List Nat := [0, 1, 3, 7, 0, 0, 48, 127, 255]
theorem impl_ProbeHappen.tab17 : rtab .any (opsOf Tryz.f7 17) = impl_ProbeHappen.T17 := by kernel_rfl
theorem impl_ProbeHappen.bits17 : waitsOk impl_ProbeHappen.T17.2 impl_ProbeHappen.B17 = true := by kernel_rfl
theorem impl_ProbeHappen.calls (k : Nat) (A0 : Option Addr) (c0 : Nat) (l0 : List (S32)) (a1_0 : Bool) (a1_1 : ByteArray) (A1_2 : Option Addr) (c1_2 : Nat) (l1_2 : List (S75)) (r1 : List (S32)) (r2 : Int) (w : World) (hr0 : Kd.C k32 w A0 l0.length l0) (hc0 : l0.length ≤ c0) (hr1_2 : Kd.C k75 w A1_2 l1_2.length l1_2) (hc1_2 : l1_2.length ≤ c1_2) (h : impl_ProbeHappen.f k l0 a1_0 a1_1 l1_2 = some (r1, r2)) :
  Calls Tryz.prog 7 #[.slice A0 l0.length c0, .agg #[.bool a1_0, .string a1_1, .slice A1_2 l1_2.length c1_2]] w fun e w' => ∃ v0_ : Value, e = .returned (.tuple #[v0_, .int .i64 r2]) ∧ Kd.S k32 32 w' w.heap.size (fun _ => True) v0_ r1 ∧ Below w.heap.size w w' := by
 have Z0 := Tryz.underlying34
 have Z1 := Tryz.underlying32
 have Z2 := ra hr0
 have Z3 := ra hc0
 clear hr0 hc0
 have Z4 := ra hr1_2
 have Z5 := ra hc1_2
 clear hr1_2 hc1_2
 have HB := ra (Below.refl w.heap.size w)
 have H := h; unfold impl_ProbeHappen.f at H
 clear h
 obtain ⟨Z6, Z7, H⟩ := bo H
 rcases ud H with ⟨rfl, Z8⟩ | ⟨rfl, Z8⟩ <;> have H := Z8
 ·obtain ⟨Z9, Z10, H⟩ := bo H
  obtain ⟨Z11, Z12, H⟩ := bo H
  have Z13 := ra H; clear H
  go_enter Tryz.func7, Tryz.ntmps7
  go_upto_region 5 with (first | ((with_reducible refine gd 2 rfl ?_); refine bd 2 #[.slice A0 l0.length c0] 25 ?_; intro Z14 Z15 HB Z16 Z17) | ((with_reducible refine gd 3 rfl ?_); refine bf 3 #[.bool a1_0, .string a1_1, .slice A1_2 l1_2.length c1_2] 34 ?_; intro Z18 Z19 hg hb HB Z20 Z21; have Z22 := bn hg (bk Z16); have Z23 := bm hg (bk Z16); replace Z16 := bb (bk Z16) hb; have Z24 := Z22.out; have Z25 := Z23.out; obtain ⟨Z26, Z27⟩ := zc1 Z16; clear hg hb) | ((with_reducible refine gc 11 rfl ?_); refine gy (some 11) Tryz.func11 (impl_ProbeSkyOk.calls _ _ _ _ _ _ (sc Z2) Z3.out Z7.out) ?_; rintro Z28 hb; replace Z16 := bb (bk Z16) hb; replace Z20 := bb (bk Z20) hb; replace HB := bs hb; clear hb; obtain ⟨Z29, Z30⟩ := zc1 Z16) | ((with_reducible refine gc 40 rfl ?_); refine gx (some 14) Tryz.func40 (impl_copyTubes.calls _ _ _ _ _ _ (sc Z2) Z3.out Z10.out) ?_; rintro Z31 Z32 ⟨Z33, hb⟩; have Z34 := ra (Kd.S_lower Z33 (below_size bq)); replace Z16 := bb (bk Z16) hb; replace Z20 := bb (bk Z20) hb; replace HB := bs hb; clear hb Z33; obtain ⟨Z35, Z36⟩ := zc1 Z16; have Z37 : Z32.cell? ⟨Z18, 0, none⟩ = some (.bool a1_0) := (blk_cell Z20.out 0).trans rfl; have Z38 : Z32.cell? ⟨Z18, 1, none⟩ = some (.string a1_1) := (blk_cell Z20.out 1).trans rfl; have Z39 : Z32.cell? ⟨Z18, 2, none⟩ = some (.slice A1_2 l1_2.length c1_2) := (blk_cell Z20.out 2).trans rfl; have Z40 := blk_frozen Z20.out 0; have Z41 := blk_frozen Z20.out 1; have Z42 := blk_frozen Z20.out 2) | ((with_reducible refine gc 41 rfl ?_); refine gy (some 18) Tryz.func41 (impl_search.calls _ _ _ _ _ _ _ (bk Z16) (bk Z20) (sc Z2) Z3.out Z12.out) ?_; rintro Z43 hb; replace Z34 := ra (Kd.S_below (by (with_reducible repeat (first | apply Kd.S_alloc | apply Kd.S_drewN | apply Kd.S_drew)); exact Z34.out) hb); replace Z16 := bb (bk Z16) hb; replace Z20 := bb (bk Z20) hb; replace HB := bs hb; clear hb))
  (try simp only [Act.put, List.setIfInBounds_toArray, List.set_cons_zero, List.set_cons_succ])
  go_cut [8] (fun v8 wc => ∃ (kq : Nat) (x8_6 : Bool), v8 = .bool x8_6 ∧ Aside0 (impl_ProbeHappen.j0 kq Z9 Z11 x8_6 l0 a1_0 a1_1 l1_2 = some (r1, r2)) ∧ Aside0 (kq ≤ k) ∧ Aside0 (Kd.S k32 32 wc w.heap.size (fun _ => True) Z31 Z9) ∧ Aside0 (wc.heap[Z14]? = some (.cells #[(.slice A0 l0.length c0)] 25 (0, 0))) ∧ Aside0 (wc.heap[Z18]? = some (.cells #[.bool a1_0, .string a1_1, (.slice A1_2 l1_2.length c1_2)] 34 (0, 0))) ∧ Aside0 (Below w.heap.size w wc))
  case first =>
   have H := Z13.out
   clear Z13
   rcases td H with ⟨Z44, H⟩ | ⟨Z44, H⟩
   ·(first | rw [Z44] | (simp only [i64_w, i32_w]; rw [Z44]) | skip)
    obtain ⟨Z45, H⟩ := tn H
    have H' := ra H; clear H
    try go_wp2
    have _ := ra (Kd.S_drew Z34.out)
    have _ := ra (blk_drew Z16.out)
    have _ := ra (blk_drew Z20.out)
    have _ := ra (below_drew1 HB.out)
    clear Z34 Z16 Z20 HB
    rename_i Z34 Z16 Z20 HB
    have Z46 : 0 ≤ (Z11 : Int) := od
    have Z47 : Z11 < (l0.length : Int) := od
    obtain ⟨Z48, Z49, Z50, Z51, Z52, Z53, Z54, Z55⟩ := at_T32 Z2.out Z11 Z46 Z47
    have Z56 := Z53
    have Z57 := Z52
    cases Z51
    replace Z52 := hc HB Z52
    replace Z53 := hc HB Z53
    have Z58 := ra Z55
    have Z59 := ra Z54
    clear Z55 Z54
    replace Z46 := eq_true Z46
    replace Z47 := eq_true Z47
    refine start_ (n := 16) (S := fun w' => w'.cell? ⟨Z14, 0, none⟩ = some (.slice (some Z48) l0.length c0) ∧ w'.cell? ⟨Z18, 0, none⟩ = some (.bool a1_0) ∧ w'.cell? ⟨Z18, 1, none⟩ = some (.string a1_1) ∧ w'.cell? ⟨Z18, 2, none⟩ = some (.slice A1_2 l1_2.length c1_2) ∧ w'.cell? (Z48.add ((Z11).toNat * 2)) = some (.string ((rd_T32 l0 Z11).f0)) ∧ w'.cell? ⟨(Z48.add ((Z11).toNat * 2)).block, (Z48.add ((Z11).toNat * 2)).off + 1, none⟩ = some (.slice Z49 ((rd_T32 l0 Z11).f1).length Z50)) (ds := []) (bl 16 0) (by kernel_rfl) rfl rfl ⟨(blk_cell Z16.out 0).trans rfl, (blk_cell Z20.out 0).trans rfl, (blk_cell Z20.out 1).trans rfl, (blk_cell Z20.out 2).trans rfl, (hc HB Z57), (hc HB Z56)⟩ (fun hHeld => ?_); refine with_tabW impl_ProbeHappen.tab5 impl_ProbeHappen.bits5 (fun HT_ HW_ => ?_)
    generalize Z43.drew = Z60 at Z34 Z16 Z20 HB Z58 Z52 Z53 hHeld ⊢
    refine pu 0 19 (bl 16 1) ?_
    refine tk 1 20 (bl 16 3) ?_ hHeld
    refine pu 2 21 (bl 16 7) ?_
    refine pu 3 22 (bl 16 15) ?_
    refine pu 4 23 (bl 16 31) ?_
    refine pu 6 25 (bl 16 95) ?_
    refine pu 10 29 (bl 16 1119) ?_
    refine pu 11 30 (bl 16 3167) ?_
    refine tk 5 24 (bl 16 3199) ?_ hHeld
    refine pu 7 26 (bl 16 3327) ?_
    refine pu 8 27 (bl 16 3583) ?_
    refine tk 9 28 (bl 16 4095) ?_ hHeld
    refine tk 12 31 (bl 16 8191) ?_ hHeld
    refine pu 13 32 (bl 16 16383) ?_
    refine pu 14 33 (bl 16 32767) ?_
    refine pu 15 8 (bl 16 65535) ?_
    refine done_ (done_of HT_.out (by kernel_rfl)) ?_
    try go_wp2
    go_meet
    case rel => exact ⟨_, _, rs, H', ⟨by first | omega | exact Nat.le_refl _⟩, ⟨by (with_reducible repeat (first | apply Kd.S_alloc | apply Kd.S_drewN | apply Kd.S_drew)); exact Z34.out⟩, ⟨bk Z16⟩, ⟨bk Z20⟩, ⟨bq⟩⟩
   ·(first | rw [Z44] | (simp only [i64_w, i32_w]; rw [Z44]) | skip)
    have H' := ra H; clear H
    try go_wp2
    have _ := ra (Kd.S_drew Z34.out)
    have _ := ra (blk_drew Z16.out)
    have _ := ra (blk_drew Z20.out)
    have _ := ra (below_drew1 HB.out)
    clear Z34 Z16 Z20 HB
    rename_i Z34 Z16 Z20 HB
    refine start_ (n := 16) (S := fun w' => w'.cell? ⟨Z14, 0, none⟩ = some (.slice A0 l0.length c0)) (ds := []) (bl 16 0) (by kernel_rfl) rfl rfl ((blk_cell Z16.out 0).trans rfl) (fun hHeld => ?_); refine with_tabW impl_ProbeHappen.tab5 impl_ProbeHappen.bits5 (fun HT_ HW_ => ?_)
    generalize Z43.drew = Z45 at Z34 Z16 Z20 HB hHeld ⊢
    refine pu 0 19 (bl 16 1) ?_
    refine take_ (i := 1) (N := some 20) (v := ?_) (a' := ?_) #[true, true, false, false, false, false, false, false, false, false, false, false, false, false, false, false] rfl rfl (take_ofW HT_.out HW_.out (by kernel_rfl)) (fun _ _ _ h => h) (Or.inl ⟨by rfl, ?_⟩) hHeld ?_ ?_
    rotate_left
    ·intro w' Z46
     go_simp
     with_reducible rfl
    rotate_left
    ·simp only [Act.put, List.setIfInBounds_toArray, List.set_cons_zero, List.set_cons_succ, i64_w, i32_w]
     rfl
    refine pu 2 21 (bl 16 7) ?_
    refine pu 3 22 (bl 16 15) ?_
    refine pu 4 23 (bl 16 31) ?_
    refine pv 5 24 (bl 16 63) ?_
    refine pv 6 25 (bl 16 127) ?_
    refine pv 7 26 (bl 16 255) ?_
    refine pv 8 27 (bl 16 511) ?_
    refine pv 9 28 (bl 16 1023) ?_
    refine pv 10 29 (bl 16 2047) ?_
    refine pv 11 30 (bl 16 4095) ?_
    refine pv 12 31 (bl 16 8191) ?_
    refine pv 13 32 (bl 16 16383) ?_
    refine pu 14 33 (bl 16 32767) ?_
    refine pu 15 8 (bl 16 65535) ?_
    refine done_ (done_of HT_.out (by kernel_rfl)) ?_
    try go_wp2
    go_meet
    case rel => exact ⟨_, _, rs, H', ⟨by first | omega | exact Nat.le_refl _⟩, ⟨by (with_reducible repeat (first | apply Kd.S_alloc | apply Kd.S_drewN | apply Kd.S_drew)); exact Z34.out⟩, ⟨bk Z16⟩, ⟨bk Z20⟩, ⟨bq⟩⟩
  case rest =>
   clear Z13
   try clear Z26
   try clear Z29
   try clear Z35
   try clear Z37
   try clear Z38
   try clear Z39
   try clear Z27
   try clear Z30
   try clear Z36
   try clear Z40
   try clear Z41
   try clear Z42
   obtain ⟨kq, Z44, rfl, HA, Z45, Z46, Z16, Z20, HB⟩ := hcut
   cases kq with
   | zero => exact absurd HA.out (by simp [impl_ProbeHappen.j0])
   | succ Z47 =>
    have H := HA.out
    clear HA
    simp only [impl_ProbeHappen.j0] at H
    have Z48 := ra H; clear H
    go_upto_region 6 with (fail)
    go_cut [34] (fun v34 wc => ∃ (kq : Nat) (x34_21 : Bool), v34 = .bool x34_21 ∧ Aside0 (impl_ProbeHappen.j1 kq Z9 Z11 Z44 x34_21 l0 a1_0 a1_1 l1_2 = some (r1, r2)) ∧ Aside0 (kq ≤ Z47) ∧ Aside0 (Kd.S k32 32 wc w.heap.size (fun _ => True) Z31 Z9) ∧ Aside0 (wc.heap[Z14]? = some (.cells #[(.slice A0 l0.length c0)] 25 (0, 0))) ∧ Aside0 (wc.heap[Z18]? = some (.cells #[.bool a1_0, .string a1_1, (.slice A1_2 l1_2.length c1_2)] 34 (0, 0))) ∧ Aside0 (Below w.heap.size w wc))
    case first =>
     have H := Z48.out
     clear Z48
     rcases ud H with ⟨rfl, Z49⟩ | ⟨rfl, Z49⟩ <;> have H := Z49
     ·have H' := ra H; clear H
      have Z50 := Z23.out
      have Z51 := Z22.out
      have Z52 : wc.cell? ⟨Z18, 0, none⟩ = some (.bool true) := (blk_cell Z20.out 0).trans rfl
      have Z53 : wc.cell? ⟨Z18, 1, none⟩ = some (.string a1_1) := (blk_cell Z20.out 1).trans rfl
      have Z54 : wc.cell? ⟨Z18, 2, none⟩ = some (.slice A1_2 l1_2.length c1_2) := (blk_cell Z20.out 2).trans rfl
      have Z55 := blk_frozen Z20.out 0
      have Z56 := blk_frozen Z20.out 1
      have Z57 := blk_frozen Z20.out 2
      go_wp2
      go_meet
      case rel => exact ⟨_, _, rs, H', ⟨by have := Z45.out; first | omega | exact Nat.le_refl _⟩, ⟨by (with_reducible repeat (first | apply Kd.S_alloc | apply Kd.S_drewN | apply Kd.S_drew)); exact Z46.out⟩, ⟨bk Z16⟩, ⟨bk Z20⟩, ⟨bq⟩⟩
     ·obtain ⟨Z50, Z51, H⟩ := bo H
      have H' := ra H; clear H
      have Z52 := Z23.out
      have Z53 := Z22.out
      have Z54 : wc.cell? ⟨Z18, 0, none⟩ = some (.bool false) := (blk_cell Z20.out 0).trans rfl
      have Z55 : wc.cell? ⟨Z18, 1, none⟩ = some (.string a1_1) := (blk_cell Z20.out 1).trans rfl
      have Z56 : wc.cell? ⟨Z18, 2, none⟩ = some (.slice A1_2 l1_2.length c1_2) := (blk_cell Z20.out 2).trans rfl
      have Z57 := blk_frozen Z20.out 0
      have Z58 := blk_frozen Z20.out 1
      have Z59 := blk_frozen Z20.out 2
      go_wp2_with (first | (go_at_call 43; (with_reducible refine (impl_ProbeTubeOk.calls _ _ _ _ _ _ _ ?side1 ?side2 Z51.out).mono ?_); (case side1 => exact sc Z4); (case side2 => exact Z5.out); rintro e Z60 ⟨rfl, hb⟩; replace Z46 := ra (Kd.S_below (by (with_reducible repeat (first | apply Kd.S_alloc | apply Kd.S_drewN | apply Kd.S_drew)); exact Z46.out) hb); replace Z16 := bb (bk Z16) hb; replace Z20 := bb (bk Z20) hb; replace HB := bs hb; clear hb))
      go_meet
      case rel => exact ⟨_, _, rs, H', ⟨by have := Z45.out; first | omega | exact Nat.le_refl _⟩, ⟨by (with_reducible repeat (first | apply Kd.S_alloc | apply Kd.S_drewN | apply Kd.S_drew)); exact Z46.out⟩, ⟨bk Z16⟩, ⟨bk Z20⟩, ⟨bq⟩⟩
    case rest =>
     clear Z48
     try clear Z26
     try clear Z29
     try clear Z35
     try clear Z37
     try clear Z38
     try clear Z39
     try clear Z27
     try clear Z30
     try clear Z36
     try clear Z40
     try clear Z41
     try clear Z42
     obtain ⟨kq, Z49, rfl, HA, Z50, Z46, Z16, Z20, HB⟩ := hcut
     cases kq with
     | zero => exact absurd HA.out (by simp [impl_ProbeHappen.j1])
     | succ Z51 =>
      have H := HA.out
      clear HA
      simp only [impl_ProbeHappen.j1] at H
      rcases ud H with ⟨rfl, Z52⟩ | ⟨rfl, Z52⟩ <;> have H := Z52
      ·simp only [Option.some.injEq, Prod.mk.injEq] at H
       obtain ⟨rfl, rfl⟩ := H
       go_wp2
       go_ret2
       exact ⟨_, re, by (with_reducible repeat (first | apply Kd.S_alloc | apply Kd.S_drewN | apply Kd.S_drew)); exact Z46.out, bq⟩
      ·have Z53 := ra H; clear H
       go_upto_region 8 with (fail)
       go_cut [45] (fun v45 wc => ∃ (kq : Nat) (x45_30 : Bool), v45 = .bool x45_30 ∧ Aside0 (impl_ProbeHappen.j2 kq Z9 Z11 Z44 x45_30 l0 a1_0 a1_1 l1_2 = some (r1, r2)) ∧ Aside0 (kq ≤ Z51) ∧ Aside0 (Kd.S k32 32 wc w.heap.size (fun _ => True) Z31 Z9) ∧ Aside0 (wc.heap[Z14]? = some (.cells #[(.slice A0 l0.length c0)] 25 (0, 0))) ∧ Aside0 (wc.heap[Z18]? = some (.cells #[.bool a1_0, .string a1_1, (.slice A1_2 l1_2.length c1_2)] 34 (0, 0))) ∧ Aside0 (Below w.heap.size w wc))
       case first =>
        have H := Z53.out
        clear Z53
        rcases ud H with ⟨rfl, Z54⟩ | ⟨rfl, Z54⟩ <;> have H := Z54
        have H' := ra H; clear H
        have Z55 := Z23.out
        have Z56 := Z22.out
        have Z57 : wc.cell? ⟨Z18, 0, none⟩ = some (.bool true) := (blk_cell Z20.out 0).trans rfl
        rotate_left
        have H' := ra H; clear H
        have Z55 := Z23.out
        have Z56 := Z22.out
        have Z57 : wc.cell? ⟨Z18, 0, none⟩ = some (.bool false) := (blk_cell Z20.out 0).trans rfl
        rotate_left
        all_goals
         have Z58 : wc.cell? ⟨Z18, 1, none⟩ = some (.string a1_1) := (blk_cell Z20.out 1).trans rfl
         have Z59 : wc.cell? ⟨Z18, 2, none⟩ = some (.slice A1_2 l1_2.length c1_2) := (blk_cell Z20.out 2).trans rfl
         have Z60 := blk_frozen Z20.out 0
         have Z61 := blk_frozen Z20.out 1
         have Z62 := blk_frozen Z20.out 2
         go_wp2
         go_meet
         case rel => exact ⟨_, _, rs, H', ⟨by have := Z45.out; have := Z50.out; first | omega | exact Nat.le_refl _⟩, ⟨by (with_reducible repeat (first | apply Kd.S_alloc | apply Kd.S_drewN | apply Kd.S_drew)); exact Z46.out⟩, ⟨bk Z16⟩, ⟨bk Z20⟩, ⟨bq⟩⟩
       case rest =>
        clear Z53
        try clear Z26
        try clear Z29
        try clear Z35
        try clear Z37
        try clear Z38
        try clear Z39
        try clear Z27
        try clear Z30
        try clear Z36
        try clear Z40
        try clear Z41
        try clear Z42
        obtain ⟨kq, Z54, rfl, HA, Z55, Z46, Z16, Z20, HB⟩ := hcut
        cases kq with
        | zero => exact absurd HA.out (by simp [impl_ProbeHappen.j2])
        | succ Z56 =>
         have H := HA.out
         clear HA
         simp only [impl_ProbeHappen.j2] at H
         rcases ud H with ⟨rfl, Z57⟩ | ⟨rfl, Z57⟩ <;> have H := Z57
         ·simp only [Option.some.injEq, Prod.mk.injEq] at H
          obtain ⟨rfl, rfl⟩ := H
          go_wp2
          go_ret2
          exact ⟨_, re, by (with_reducible repeat (first | apply Kd.S_alloc | apply Kd.S_drewN | apply Kd.S_drew)); exact Z46.out, bq⟩
         ·rcases ud H with ⟨rfl, Z58⟩ | ⟨rfl, Z58⟩ <;> have H := Z58
          ·by_cases Z59 : 0 ≤ Z11
           ·rw [if_pos Z59] at H
            have Z60 := eq_true Z59
            have Z61 : decide (0 ≤ Z11) = true := decide_eq_true Z59
            clear Z59
            by_cases Z62 : Z11 ≤ (Z9.length : Int)
            ·rw [if_pos Z62] at H
             have Z63 := eq_true Z62
             have Z64 : decide (Z11 ≤ (Z9.length : Int)) = true := decide_eq_true Z62
             clear Z62
             obtain ⟨Z65, hy_⟩ : ∃ y_ : List (S32), y_ = (Z9.take (Z11 : Int).toNat) := ⟨_, rfl⟩
             replace H : (if 0 ≤ (wrap64 (Z11 + 1)) then (if (wrap64 (Z11 + 1)) ≤ (Z9.length : Int) then (some ((Z9.eraseIdx (Z11 : Int).toNat), 0)) else (none)) else (none)) = some (r1, r2) := yh
             have Z66 := ra hy_
             clear hy_
             obtain ⟨Z67, Z68⟩ : ∃ j_ : Int, (wrap64 (Z11 + 1)) = j_ := ⟨_, rfl⟩
             replace H : (if 0 ≤ (Z67) then (if (Z67) ≤ (Z9.length : Int) then (some ((Z9.eraseIdx (Z11 : Int).toNat), 0)) else (none)) else (none)) = some (r1, r2) := by first | (rw [Z68] at H; exact H) | (simp only [Z68] at H ⊢; exact H)
             have Z69 : (IntKind.i64.wrap (Z11 + 1)) = Z67 := (i64_w _).trans Z68
             by_cases Z70 : 0 ≤ (Z67)
             ·rw [if_pos Z70] at H
              have Z71 := eq_true Z70
              have Z72 : decide (0 ≤ (Z67)) = true := decide_eq_true Z70
              clear Z70
              by_cases Z73 : (Z67) ≤ (Z9.length : Int)
              ·rw [if_pos Z73] at H
               have Z74 := eq_true Z73
               have Z75 : decide ((Z67) ≤ (Z9.length : Int)) = true := decide_eq_true Z73
               clear Z73
               obtain ⟨Z76, hy_⟩ : ∃ y_ : List (S32), y_ = (Z9.drop ((Z67) : Int).toNat) := ⟨_, rfl⟩
               replace H : (some ((Z9.eraseIdx (Z11 : Int).toNat), 0)) = some (r1, r2) := yh
               have Z77 := ra hy_
               clear hy_
               obtain ⟨Z78, hy_⟩ : ∃ y_ : List (S32), y_ = (Z9.eraseIdx (Z11 : Int).toNat) := ⟨_, rfl⟩
               replace H : (some (Z78, 0)) = some (r1, r2) := yh
               have Z79 := ra hy_
               clear hy_
               simp only [Option.some.injEq, Prod.mk.injEq] at H
               obtain ⟨rfl, rfl⟩ := H
               have Z80 := Z23.out
               have Z81 := Z22.out
               have Z82 : wc.cell? ⟨Z18, 0, none⟩ = some (.bool true) := (blk_cell Z20.out 0).trans rfl
               have Z83 : wc.cell? ⟨Z18, 1, none⟩ = some (.string a1_1) := (blk_cell Z20.out 1).trans rfl
               have Z84 : wc.cell? ⟨Z18, 2, none⟩ = some (.slice A1_2 l1_2.length c1_2) := (blk_cell Z20.out 2).trans rfl
               have Z85 := blk_frozen Z20.out 0
               have Z86 := blk_frozen Z20.out 1
               have Z87 := blk_frozen Z20.out 2
               try go_wp2
               have _ := ra (Kd.S_drew Z46.out)
               have _ := ra (blk_drew Z16.out)
               have _ := ra (blk_drew Z20.out)
               have _ := ra (below_drew1 HB.out)
               clear Z46 Z16 Z20 HB
               rename_i Z46 Z16 Z20 HB
               obtain ⟨Z88, Z89, Z90⟩ := Kd.S_slice Z46.out
               (first | subst Z90 | (injection Z90 with f1_ f2_ f3_; have Z91 := f1_.symm; have Z92 := f3_.symm; clear f1_ f2_ f3_; subst Z91; subst Z92))
               have Z93 : (Z11 : Int) ≤ ((Z9.length : Int) : Int) := od
               obtain ⟨Z94, Z95, _, Z96, _⟩ := info_parts info32
               have Z97 : Z9.length ≤ Z89 := (Kd.S_reads' Z46.out).2.1
               have Z98 : Kd.C k32 _ Z88 Z9.length Z9 := (Kd.S_reads' Z46.out).2.2
               have Z99 := cut_to (P := Tryz.prog) 25 32 .i64 Tryz.underlying25 Z95 Z88 Z9.length Z89 Z11 (od) Z93 Z97
               have Z100 := Kd.C_take (m := (Z11 : Int).toNat) Z98 (by omega)
               have Z101 : Z65.length = (Z11 : Int).toNat := (by rw [Z66.out, List.length_take]; omega)
               rw [← Z66.out] at Z100
               rw [← Z101] at Z99
               have Z102 := ra Z100
               have Z103 := ra (show Z65.length ≤ Z89 from by omega)
               clear Z100 Z98 Z97 Z95 Z96
               have Z104 := ra Z101; clear Z101
               have Z105 := ra (show (Z11 : Int).toNat ≤ Z9.length from by omega)
               replace Z93 := eq_true Z93
               have Z106 : ((Z67) : Int) ≤ ((Z9.length : Int) : Int) := od
               obtain ⟨Z107, Z108, _, Z109, _⟩ := info_parts info32
               have Z110 : Z9.length ≤ Z89 := (Kd.S_reads' Z46.out).2.1
               have Z111 : Kd.C k32 _ Z88 Z9.length Z9 := (Kd.S_reads' Z46.out).2.2
               have Z112 : (0 : Int) ≤ ((Z67) : Int) := od
               have Z113 := cut_from (P := Tryz.prog) 25 32 .i64 Tryz.underlying25 Z108 2 Z109 Z88 Z9.length Z89 (Z67) Z112 Z106
               have Z114 := Kd.C_drop (m := ((Z67) : Int).toNat) (c := Z89) Z111 (by omega) Z110
               obtain ⟨Z115, Z116⟩ : ∃ A1, A1 = (if Z89 = ((Z67) : Int).toNat then Z88 else (Z88 : Option Addr).map (·.add (((Z67) : Int).toNat * 2))) := ⟨_, rfl⟩
               obtain ⟨Z117, Z118⟩ : ∃ c1, c1 = Z89 - ((Z67) : Int).toNat := ⟨_, rfl⟩
               have Z119 : Z76.length = Z9.length - ((Z67) : Int).toNat := (by rw [Z77.out, List.length_drop] <;> omega)
               rw [show (Z9).drop ((Z67) : Int).toNat = Z76 from Z77.out.symm] at Z114
               replace Z114 : Kd.C k32 _ Z115 Z76.length Z76 := (by rw [Z116]; exact Z114)
               rw [← Z119, ← Z116, ← Z118] at Z113
               have Z120 := ra Z114
               have Z121 := ra (show Z76.length ≤ Z117 from by rw [Z119, Z118]; exact Nat.sub_le_sub_right Z110 _)
               clear Z114 Z111 Z110 Z108 Z109 Z118
               have Z122 := ra Z119
               have Z123 := ra Z116
               clear Z119 Z116
               have Z124 := ra (show ((Z67) : Int).toNat ≤ Z9.length from by omega)
               replace Z106 := eq_true Z106
               obtain ⟨Z125, Z126, Z127, Z128, Z129, Z130, Z131⟩ := Kd.S_form Z46.out (by have hj_ : 0 ≤ (Z11 : Int) := od; have hl_ : (Z67 : Int) ≤ (Z9.length : Int) := od; have hh_ : (Z11 : Int) ≤ (Z9.length : Int) := od; rw [← Z68] at hl_; unfold wrap64 at hl_; omega)
               (first | cases Z127 | (injection Z127 with ea_ en_ ec_; (first | subst ea_ | (injection ea_ with ea_; subst ea_)); subst ec_; clear en_))
               have Z132 := ra Z128
               have Z133 := ra Z131
               clear Z128 Z129 Z131
               refine start_ (n := 10) (S := fun w' => True) (ds := []) (bl 10 0) (by kernel_rfl) rfl rfl trivial (fun hHeld => ?_); refine with_tabW impl_ProbeHappen.tab11 impl_ProbeHappen.bits11 (fun HT_ HW_ => ?_)
               generalize wc.drew = Z134 at Z46 Z16 Z20 HB Z133 Z102 Z120 hHeld ⊢
               refine pu 0 56 (bl 10 1) ?_
               refine pu 1 57 (bl 10 3) ?_
               refine pu 2 58 (bl 10 7) ?_
               refine pu 3 59 (bl 10 15) ?_
               refine pu 4 60 (bl 10 31) ?_
               refine pu 5 61 (bl 10 63) ?_
               refine pu 6 62 (bl 10 127) ?_
               refine oe 7 63 (bl 10 255) (fun K hK => ?_)
               have hj_ : 0 ≤ (Z11 : Int) := od
               have hl_ : (Z67 : Int) ≤ (Z9.length : Int) := od
               have hh_ : (Z11 : Int) ≤ (Z9.length : Int) := od
               have hb_ := (Kd.S_reads' Z46.out).2.2.2.1
               have Z135 : (0 : Int) ≤ (Z67 : Int) := od
               have Z136 := Z104.out
               have hk_ : (Z67 : Int).toNat = Z65.length + 1 := (by have hw_ : (Z67 : Int) = Z11 + 1 := (by have Z137 := Z135; rw [← Z68] at Z137 ⊢; unfold wrap64 at Z137 ⊢; omega); rw [hw_]; omega)
               refine Kd.S_delete_step k32 (w0 := w) w.heap.size (by rfl) (.tmp 58) (.tmp 62) 25 32 rfl Tryz.underlying25 (by kernel_rfl) (g := Z125) (n := Z9.length) (c := Z89) (k := Z65.length) rfl rfl ?hA ?hm (by (with_reducible repeat (first | apply Kd.S_alloc | apply Kd.S_drewN | apply Kd.S_drew)); exact Z46.out) ?hk bq (below_size bq) ?_
               (case hA => have ha_ := Z123.out; rw [hk_] at ha_; exact ha_)
               (case hm => have ha_ := Z122.out; omega)
               (case hk => omega)
               intro Z138 ho hb hg
               clear hj_ hl_ hh_ hb_ hk_ Z135
               rw [Z136, ← Z79.out] at ho
               clear Z136
               have hn_ : Z9.length - 1 = Z78.length := (by have := (Kd.S_reads' ho).1; omega)
               rw [hn_] at ho ⊢
               clear hn_
               have _ := ra (ho)
               have _ := ra (blk_grown (g := Z14) (o := .cells #[.slice A0 l0.length c0] 25 (0, 0)) (bk Z16) hg (Kd.S_ne Z46.out Z16.out (by decide)))
               have _ := ra (blk_grown (g := Z18) (o := .cells #[.bool true, .string a1_1, .slice A1_2 l1_2.length c1_2] 34 (0, 0)) (bk Z20) hg (Kd.S_ne Z46.out Z20.out (by decide)))
               have _ := ra (hb)
               clear Z46 Z16 Z20 HB
               rename_i Z46 Z16 Z20 HB
               clear ho hb hg
               refine hK.out _ _ trivial (fun hHeld => ?_)
               clear hK K
               refine nm 63 ?_
               refine pu 8 4 (bl 10 511) ?_
               refine pu 9 5 (bl 10 1023) ?_
               refine done_ (done_of HT_.out (by kernel_rfl)) ?_
               try go_wp2
               go_ret2
               exact ⟨_, by first | rfl | (simp [errW_none, errW_some] <;> rfl) | (simp only [← Z68]; first | rfl | (simp [errW_none, errW_some] <;> rfl)) | (simp [*, errW_none, errW_some] <;> rfl), by (with_reducible repeat (first | apply Kd.S_alloc | apply Kd.S_drewN | apply Kd.S_drew)); exact Z46.out, bq⟩
              ·rw [if_neg Z73] at H
               exact absurd H (by simp)
             ·rw [if_neg Z70] at H
              exact absurd H (by simp)
            ·rw [if_neg Z62] at H
             exact absurd H (by simp)
           ·rw [if_neg Z59] at H
            exact absurd H (by simp)
          ·rcases ud H with ⟨rfl, Z59⟩ | ⟨rfl, Z59⟩ <;> have H := Z59
           ·obtain ⟨⟨Z60, Z61⟩, Z62, H⟩ := bo H
            try dsimp only at H
            obtain ⟨Z63, H⟩ := tn H
            obtain ⟨Z64, H⟩ := tn H
            obtain ⟨Z65, hy_⟩ : ∃ y_ : List (S32), y_ = (Z9.set (Z11 : Int).toNat (⟨Z60, Z61⟩ : S32)) := ⟨_, rfl⟩
            replace H : (some (Z65, 0)) = some (r1, r2) := yh
            have Z66 := ra hy_
            clear hy_
            simp only [Option.some.injEq, Prod.mk.injEq] at H
            obtain ⟨rfl, rfl⟩ := H
            have Z67 := Z23.out
            have Z68 := Z22.out
            have Z69 : wc.cell? ⟨Z18, 0, none⟩ = some (.bool false) := (blk_cell Z20.out 0).trans rfl
            have Z70 : wc.cell? ⟨Z18, 1, none⟩ = some (.string a1_1) := (blk_cell Z20.out 1).trans rfl
            have Z71 : wc.cell? ⟨Z18, 2, none⟩ = some (.slice A1_2 l1_2.length c1_2) := (blk_cell Z20.out 2).trans rfl
            have Z72 := blk_frozen Z20.out 0
            have Z73 := blk_frozen Z20.out 1
            have Z74 := blk_frozen Z20.out 2
            go_wp2_with (first | ((with_reducible refine gc 44 rfl ?_); refine gm (some 70) Tryz.func44 (impl_copyTube.calls _ _ _ _ _ _ _ (sc Z4) Z5.out Z62.out) ?_; rintro e Z75 ⟨Z76, rfl, Z33, hb⟩; obtain ⟨Z77, Z78, Z79⟩ := Kd.R_slice Z33; subst Z79; refine ⟨_, rfl, ?_⟩; have Z80 := ra (Kd.R_lower Z33 (below_size bq)); replace Z46 := ra (Kd.S_elder' (by (with_reducible repeat (first | apply Kd.S_alloc | apply Kd.S_drewN | apply Kd.S_drew)); exact Z46.out) (Kd.R_base Z33) hb); replace Z16 := bb (bk Z16) hb; replace Z20 := bb (bk Z20) hb; replace HB := bs hb; clear hb Z33; have Z81 : 0 ≤ (Z11 : Int) := od; have Z82 : (Z11 : Int) < ((Z9.length : Int) : Int) := od; obtain ⟨Z83, Z84, Z85, Z86, Z87, Z88, Z89⟩ := Kd.S_form Z46.out (by omega); (first | cases Z85 | (injection Z85 with ea_ en_ ec_; (first | subst ea_ | (injection ea_ with ea_; subst ea_)); subst ec_; clear en_)); have Z90 := Aside0.mk Z86; have Z91 := Aside0.mk Z89; clear Z86 Z87 Z89; obtain ⟨_, Z92, Z93, Z94, Z95, Z96, _, _⟩ := Kd.S_elem Z46.out z32 (Z11 : Int) Z81 Z82; obtain ⟨Z97, rfl, Z98⟩ := k32_openM Z94; have Z99 : Z75.cell? ⟨Z83, (Z11 : Int).toNat * 2, none⟩ = some (.string ((rd_T32 Z9 Z11).f0)) := Z95 0 _ rfl; have Z100 : Z75.cell? ⟨Z83, (Z11 : Int).toNat * 2 + 1, none⟩ = some (Z97) := Z95 1 _ rfl; have Z101 : Z75.frozen? ⟨Z83, (Z11 : Int).toNat * 2, none⟩ = false := Z96 0; have Z102 : Z75.frozen? ⟨Z83, (Z11 : Int).toNat * 2 + 1, none⟩ = false := Z96 1; clear Z93 Z95 Z96 Z94; replace Z81 := eq_true Z81; replace Z82 := eq_true Z82; have n_ := ra (Kd.S_mono (ok' := (fun k_ => some k_ ≠ ((.slice Z77 Z61.length Z78 : Value) : Value).ownBlock)) Z46.out (fun k_ hk => hk.2)); clear Z46; have Z46 := n_; clear n_; have Z103 := ra (show Kd.S k32 32 Z75 w.heap.size (fun k_ => ((fun _ => True)) k_ ∧ ¬ ((fun k_ => some k_ = ((.slice Z77 Z61.length Z78 : Value) : Value).ownBlock)) k_) (.slice (some ⟨Z83, 0, none⟩) Z9.length Z84) Z9 from (by (with_reducible repeat (first | apply Kd.S_alloc | apply Kd.S_drewN | apply Kd.S_drew)); exact Kd.S_mono Z46.out (fun k_ hk => ⟨trivial, fun e_ => hk e_⟩))); obtain ⟨Z104, Z105, Z106, Z107, Z108, Z109, Z110, Z111⟩ := Kd.S_elem Z103.out z32 (Z11 : Int) (od) (by have h_ : (Z11 : Int) < ((Z9.length : Int) : Int) := od; first | exact h_ | (have e_ := (Kd.S_reads' Z46.out).1; omega) | simpa using h_); obtain ⟨Z112, rfl, Z113⟩ := k32_openM Z107; have Z114 := Kd.S_seg Z111 (od) (by have h_ : (Z11 : Int) < ((Z9.length : Int) : Int) := od; first | exact h_ | (have e_ := (Kd.S_reads' Z46.out).1; omega) | simpa using h_) (seg := [.string Z60, (.slice Z77 Z61.length Z78 : Value)]) (j := 0) (show 2 ≤ 2 from by decide) (x' := (⟨Z60, Z61⟩ : S32)) (k32_mkM _ _ _ (⟨Z60, Z61⟩ : S32) (Kd.R_mono (Kd.R_tight rfl (Kd.R_mono (ok' := fun k_ => ((fun _ => True)) k_ ∧ k_ ≠ Z83) (Kd.R_apart' (Z80.out) (Kd.S_typed Z46.out) (by decide)) (fun k_ hk => ⟨trivial, fun e_ => (hk.2) (by rw [e_]; rfl)⟩))) (fun _ h_ => Or.inr (h_)))) (fun _ hk => hk) (fun k_ hk_ => ((Kd.R_mono (ok' := fun k_ => ((fun _ => True)) k_ ∧ k_ ≠ Z83) (Kd.R_apart' (Z80.out) (Kd.S_typed Z46.out) (by decide)) (fun k_ hk => ⟨trivial, fun e_ => (hk.2) (by rw [e_]; rfl)⟩))).1 k_ hk_.symm); have Z115 := Z108 0 _ rfl; (try simp only [show (k32).sz = 2 from rfl, Nat.mul_one, Nat.add_zero] at Z115); have Z116 := Z109 0; (try simp only [show (k32).sz = 2 from rfl, Nat.mul_one, Nat.add_zero] at Z116); have Z117 := Z108 1 _ rfl; (try simp only [show (k32).sz = 2 from rfl, Nat.mul_one, Nat.add_zero] at Z117); have Z118 := Z109 1; (try simp only [show (k32).sz = 2 from rfl, Nat.mul_one, Nat.add_zero] at Z118); clear Z106 Z108 Z109 Z107 Z110 Z111) | ((with_reducible refine gate_store (t := 32) (p := 71) rfl ?_); refine store_event (t := 32) (p := 71) (v := ?vo_w61) (w1 := ((Z75.setCell ⟨Z83, (Z11 : Int).toNat * 2, none⟩ (.string Z60)).setCell ⟨Z83, (Z11 : Int).toNat * 2 + 1, none⟩ ((.slice Z77 Z61.length Z78 : Value)))) ?hg ?ho ?hn ?hr ?_; (case ho => rfl); (case hg => rfl); (case hn => rfl); (case hr => first | (go_simp; done) | (go_simp; rfl)); intro Z119 hw; have hg : Z75.grownBy Z119 (some Z83) := (by rw [hw]; exact Z114.2); have hp_ : Kd.S k32 32 Z119 w.heap.size (fun _ => True) (.slice (some ⟨Z83, 0, none⟩) Z9.length Z84) Z65 := (by rw [hw, Z66.out]; exact Z114.1); clear Z114; have _ := ra (hp_); have _ := ra (blk_grown (g := Z14) (o := .cells #[.slice A0 l0.length c0] 25 (0, 0)) (bk Z16) hg (Kd.S_ne Z46.out Z16.out (by decide))); have _ := ra (blk_grown (g := Z18) (o := .cells #[.bool false, .string a1_1, .slice A1_2 l1_2.length c1_2] 34 (0, 0)) (bk Z20) hg (Kd.S_ne Z46.out Z20.out (by decide))); have _ := ra ((by rw [hw]; exact below_set (below_set (HB.out) Z90.out) Z90.out : Below w.heap.size w Z119)); clear Z46 Z16 Z20 HB Z80; rename_i Z46 Z16 Z20 HB; clear hg hw hp_))
            go_ret2
            exact ⟨_, re, by (with_reducible repeat (first | apply Kd.S_alloc | apply Kd.S_drewN | apply Kd.S_drew)); exact Z46.out, bq⟩
           ·rcases ed H with ⟨-, Z60, Z61, H⟩ | ⟨Z62, Z60, Z61, H⟩
            ·simp only [Option.some.injEq, Prod.mk.injEq] at H
             obtain ⟨rfl, rfl⟩ := H
             have Z63 := Z23.out
             have Z64 := Z22.out
             have Z65 : wc.cell? ⟨Z18, 0, none⟩ = some (.bool false) := (blk_cell Z20.out 0).trans rfl
             have Z66 : wc.cell? ⟨Z18, 1, none⟩ = some (.string a1_1) := (blk_cell Z20.out 1).trans rfl
             have Z67 : wc.cell? ⟨Z18, 2, none⟩ = some (.slice A1_2 l1_2.length c1_2) := (blk_cell Z20.out 2).trans rfl
             have Z68 := blk_frozen Z20.out 0
             have Z69 := blk_frozen Z20.out 1
             have Z70 := blk_frozen Z20.out 2
             obtain ⟨Z71, Z72⟩ := zc1 Z16
             go_wp2
             go_ret2
             exact ⟨_, re, by (with_reducible repeat (first | apply Kd.S_alloc | apply Kd.S_drewN | apply Kd.S_drew)); exact Z46.out, bq⟩
            ·obtain ⟨⟨Z63, Z64⟩, Z65, H⟩ := bo H
             try dsimp only at H
             by_cases Z66 : 0 ≤ Z11
             ·rw [if_pos Z66] at H
              by_cases Z67 : Z11 ≤ (Z9.length : Int)
              ·rw [if_pos Z67] at H
               have hsmall : Z9.length ≤ 1000 := by
                by_cases h : Z9.length ≤ 1000
                ·exact h
                ·rw [if_neg h] at H; cases H
               rw [if_pos hsmall] at H
               have HSM := ra hsmall; clear hsmall
               simp only [Option.some.injEq, Prod.mk.injEq] at H
               obtain ⟨rfl, rfl⟩ := H
               obtain ⟨n, hn⟩ : ∃ n : Nat, Z11 = (n : Int) := ⟨Z11.toNat, (Int.toNat_of_nonneg Z66).symm⟩
               subst hn
               have hnl : n ≤ Z9.length := by omega
               have Z68 := eq_true Z66
               have Z69 := eq_true Z67
               clear Z66 Z67
               have Z70 := Z23.out
               have Z71 := Z22.out
               have Z72 : wc.cell? ⟨Z18, 0, none⟩ = some (.bool false) := (blk_cell Z20.out 0).trans rfl
               have Z73 : wc.cell? ⟨Z18, 1, none⟩ = some (.string a1_1) := (blk_cell Z20.out 1).trans rfl
               have Z74 : wc.cell? ⟨Z18, 2, none⟩ = some (.slice A1_2 l1_2.length c1_2) := (blk_cell Z20.out 2).trans rfl
               have Z75 : wc.cell? ⟨Z14, 0, none⟩ = some (.slice A0 l0.length c0) := (blk_cell Z16.out 0).trans rfl
               have Z76 := blk_frozen Z20.out 0
               have Z77 := blk_frozen Z20.out 1
               have Z78 := blk_frozen Z20.out 2
               have Z79 := blk_frozen Z16.out 0
               try go_wp2
               have Z80 := ra (Kd.S_drew Z46.out)
               have Z81 := ra (blk_drew Z20.out)
               have Z82 := ra (below_drew1 HB.out)
               clear Z46 Z16 Z20 HB
               have Z46 := Z80
               have Z20 := Z81
               have HB := Z82
               clear Z80 Z81 Z82
               obtain ⟨Z83, Z84, Z85⟩ := Kd.S_slice Z46.out
               subst Z85
               have hroom := (Kd.S_reads' Z46.out).2.1
               obtain ⟨Z86, Z87, Z88, Z89, Z90⟩ := info_parts info32
               have hcut := cut_from (P := Tryz.prog) 25 32 .i64 Tryz.underlying25 Z87 2 Z89 Z83 Z9.length Z84 (n : Int) (by omega) (by omega)
               rw [Int.toNat_natCast] at hcut
               obtain ⟨Z91, Z92⟩ : ∃ A1, A1 = (if Z84 = n then Z83 else Z83.map (·.add (n * 2))) := ⟨_, rfl⟩
               rw [← Z92] at hcut
               have Z93 := ra Z92; clear Z92
               have HR_ := ra hroom
               have HL_ := ra hnl
               clear hroom hnl
               refine start_ (n := 9) (S := fun w' => w'.cell? ⟨Z18, 1, none⟩ = some (.string a1_1) ∧ w'.cell? ⟨Z18, 2, none⟩ = some (.slice A1_2 l1_2.length c1_2)) (ds := []) (bl 9 0) (by kernel_rfl) rfl rfl ⟨(blk_cell Z20.out 1).trans rfl, (blk_cell Z20.out 2).trans rfl⟩ (fun hHeld => ?_); refine with_tabW impl_ProbeHappen.tab17 impl_ProbeHappen.bits17 (fun HT_ HW_ => ?_)
               generalize wc.drew = Z94 at Z46 Z20 HB hHeld ⊢
               refine pu 0 78 (bl 9 1) ?_
               refine tk 1 79 (bl 9 3) ?_ hHeld
               refine pu 4 82 (bl 9 19) ?_
               refine pu 5 83 (bl 9 51) ?_
               refine pu 6 84 (bl 9 115) ?_
               refine oe 2 80 (bl 9 119) (fun K hK => ?_)
               refine gs Tryz.func44 #[.agg #[.string a1_1, .slice A1_2 l1_2.length c1_2]] ?_
               with_reducible refine (impl_copyTube.calls a1_1 _ _ l1_2 Z63 Z64 _ ?side1 ?side2 Z65.out).mono ?_
               (case side1 => exact sc Z4)
               (case side2 => exact Z5.out)
               rintro e Z95 ⟨Z96, rfl, Z33, hb⟩
               refine ⟨_, rfl, ?_⟩
               obtain ⟨Z97, Z98, Z99⟩ := Kd.R_slice Z33
               subst Z99
               have Z100 := ra Z33
               have Z101 := ra hb
               have Z80 := bb (o := .cells #[.bool false, .string a1_1, .slice A1_2 l1_2.length c1_2] 34 (0, 0)) Z20.out hb
               clear Z20
               have Z20 := Z80
               clear Z80 Z33 hb
               refine hK.out _ _ ⟨(blk_cell Z20.out 1).trans rfl, (blk_cell Z20.out 2).trans rfl⟩ (fun hHeld => ?_)
               clear hK K
               refine nm 80 ?_
               refine oe 3 81 (bl 9 127) (fun K hK => ?_)
               refine Kd.R_lit_step (Kd.raw 2) _ 32 ?hg (N := 81) ?hd (xs := [[.string Z63, .slice Z97 Z64.length Z98]]) (inner := [.string Z63, .slice Z97 Z64.length Z98]) (ok := fun _ => True) (okp := fun _ => True) ?hr ?hp (fun _ hk => hk) trivial (Below.refl _ _) (Nat.le_refl _) (by simp) ?_; (case hd => rfl); (case hg => rfl); (case hr => first | (go_simp; done) | (go_simp; rfl)); (case hp => exact Reps.snoc (ps := []) (cs := []) (Reps.none _ _) (show Kd.M (Kd.raw 2) _ _ _ [.string Z63, .slice Z97 Z64.length Z98] [.string Z63, .slice Z97 Z64.length Z98] from ⟨rfl, rfl, fun u hu => by simp only [List.mem_cons, List.not_mem_nil, or_false] at hu; rcases hu with rfl | rfl <;> rfl⟩) rfl)
               intro Z102 Z103 Z104 hb Z105 hnew_
               have Z106 := ra Z104
               have Z107 := ra Z105
               have Z108 := ra hnew_
               have Z109 := ra hb
               have Z80 := bb (o := .cells #[.bool false, .string a1_1, .slice A1_2 l1_2.length c1_2] 34 (0, 0)) Z20.out hb
               clear Z20
               have Z20 := Z80
               clear Z80 Z104 hb Z105 hnew_
               refine hK.out _ _ ⟨(blk_cell Z20.out 1).trans rfl, (blk_cell Z20.out 2).trans rfl⟩ (fun hHeld => ?_)
               clear hK K
               refine nm 81 ?_
               obtain ⟨Z110, Z111, Z112, Z113, Z114⟩ := Z46.out
               rw [List.length_zipIdx] at Z113
               have Z115 := Z114.1
               rw [List.length_zipIdx] at Z115
               have Z116 : ∀ k, k < Z94.heap.size → Z103.heap[k]? = Z94.heap[k]? := fun k hk => (Z109.out.block k (Nat.lt_of_lt_of_le hk Z101.out.size)).trans (Z101.out.block k hk)
               have Z117 := ra Z116; clear Z116
               obtain ⟨news, hnews⟩ : ∃ ns : List (List Value), ns = (List.range (Z9.length - n)).map fun j => (Z112.drop ((n + j) * 2)).take 2 := ⟨_, rfl⟩
               have HNW := ra hnews; clear hnews
               have Z118 := ra Z113
               have Z119 := ra Z114
               have Z120 := ra Z115
               clear Z111 Z113 Z114 Z115
               refine oe 7 85 (bl 9 255) (fun K hK => ?_)
               refine Kd.R_append_rows_step (Kd.raw 2) (w0 := Z95) Z95.heap.size (by rfl) (.tmp 81) (.tmp 84) 25 32 (.agg #[.string ⟨#[]⟩, .slice none 0 0]) 40 rfl Tryz.underlying25 info32 rfl (by decide) (by omega) Z102 [[.string Z63, .slice Z97 Z64.length Z98]] news _ _ _ (fun _ => True) (fun _ => False) rfl rfl ?aO ?aR (fun _ _ h => h) (fun _ h => h.elim) ?aF ?aB ?aS ?aL ?_
               (case aO => exact Z106.out)
               (case aF => exact (fun _ _ => trivial))
               (case aB => exact Z109.out)
               (case aS => exact Z109.out.size)
               (case aL => have := HSM.out; simp only [List.length_cons, List.length_nil]; omega)
               (case aR => rw [HNW.out, Z93.out]; exact Z.tail_reads Z118.out Z117.out (Z.reps_one (show 0 < 2 from by decide) Z119.out) HL_.out HSM.out)
               intro Z121 Z122 Z123 Z124 Z125 Z126
               have Z127 := ra Z123
               have Z128 := ra Z125
               have Z129 := ra Z124
               clear Z123 Z124 Z125 Z126
               have Z80 := ra (blk_grown (g := Z18) (o := .cells #[.bool false, .string a1_1, .slice A1_2 l1_2.length c1_2] 34 (0, 0)) Z20.out Z128.out (Kd.R_ne Z106.out Z20.out (by decide)))
               clear Z20
               have Z20 := Z80
               clear Z80
               refine hK.out _ _ ⟨(blk_cell Z20.out 1).trans rfl, (blk_cell Z20.out 2).trans rfl⟩ (fun hHeld => ?_)
               clear hK K
               refine nm 85 ?_
               refine pu 8 9 (bl 9 511) ?_
               refine done_ (done_of HT_.out (by kernel_rfl)) ?_
               obtain ⟨Z130, Z131, Z132, _, _, _⟩ := Kd.R_form Z127.out (by simp)
               subst Z132
               obtain ⟨_, Z133, Z134, Z135⟩ := Z127.out
               have Z136 : ∀ k, k < Z94.heap.size → Z122.heap[k]? = Z94.heap[k]? := fun k hk => (Z128.out.block k (Nat.lt_of_lt_of_le (Nat.lt_of_lt_of_le hk Z101.out.size) Z109.out.size) (fun he => by
                obtain ⟨b, hb, hle⟩ := Z108.out
                rw [hb] at he
                injection he with he
                have := Z101.out.size
                omega)).trans (Z117.out k hk)
               have Z137 := ra Z136; clear Z136
               have Z138 := ra Z134
               have Z139 := ra Z135
               clear Z134 Z135
               have hmax := Z.cut_max (P := Tryz.prog) 25 32 .i64 .i64 Tryz.underlying25 Z87 Z83 Z9.length Z84 n (Nat.le_trans HL_.out HR_.out)
               have Z140 : n + (([[.string Z63, .slice Z97 Z64.length Z98]] : List (List Value)) ++ news).length = Z9.length + 1 := by
                have := HL_.out
                rw [HNW.out, List.length_append, List.length_map, List.length_range, List.length_singleton]
                omega
               have HLN := ra Z140; clear Z140
               go_wp2_with (first | ((with_reducible refine gate_builtin (b := .append) (xs := #[.tmp 89, .tmp 90]) rfl ?_); at_builtin; refine wpList_append_grows Z122 rfl (.tmp 89) (.tmp 90) 25 rfl 32 Z86 (.agg #[.string ⟨#[]⟩, .slice none 0 0]) 2 40 Tryz.underlying25 Z87 Z88 Z89 Z90 rfl (by decide) Z83 n n (Z112.take (n * 2)) rfl ?hnone ?hlo ?holds ⟨Z130, 0, none⟩ _ _ Z133 rfl ?hn ?hc ?h1c ?hfull ?b1 ?b2 ?_; (case hnone => exact Z.own_none Z118.out HL_.out); (case hlo => have := HL_.out; have Z141 : Z112.length = Z9.length * 2 := Z120.out; rw [List.length_take]; omega); (case holds => exact Z.own_holds Z118.out Z137.out); (case hn => exact Z139.out.1); (case hc => exact Z138.out.cells rfl); (case h1c => exact Z.reps_one (show 0 < 2 from by decide) Z139.out); (case hfull => simp only [List.length_append, List.length_singleton]; omega); (case b1 => have := HLN.out; have := HSM.out; unfold maxLen; omega); (case b2 => have := HLN.out; have := HSM.out; omega); intro Z142 Z143 hown hgrow; have Z144 := Aside0.mk hown; have Z145 := Aside0.mk hgrow; clear hown hgrow))
               go_ret2
               have Z146 := Z101.out.size
               have Z147 := Z109.out.size
               have Z148 := Z128.out.size
               have Z149 : ∀ k, k < Z122.heap.size → Z143.heap[k]? = Z122.heap[k]? := fun k hk => Z145.out.block k hk (by simp)
               have hown := Z144.out
               rw [HLN.out] at hown
               refine ⟨_, rfl, ?_, Below.grown (below_step (below_step HB.out Z101.out) Z129.out) Z145.out (Nat.le_trans HB.out.size (Nat.le_trans Z146 Z129.out.size)) (fun k hk => by simp at hk)⟩
               ·refine Z.S_insert (d := k32) (W := Z94) (W2 := Z95) (f := Z110) (inner := Z112) (in85 := Z133) (c := [.string Z63, .slice Z97 Z64.length Z98]) (N := Z122.heap.size) HL_.out Z120.out (fun j p hj => k32.M_mono (fun _ hk => hk.2) (Z119.out.2 j (p, j) (Kd.zip_at hj))) (k32_mkM _ _ _ (⟨Z63, Z64⟩ : S32) Z100.out) (fun k hk => (Z149 k (by omega)).trans (Z137.out k hk)) (fun k hk => (Z149 k (by omega)).trans (Z129.out.block k hk)) Z146 Z129.out.size HB.out.size hown ?_ ?_ ?_
                ·have h := Z139.out.1
                 rw [HNW.out, List.length_append, List.length_map, List.length_range, List.length_singleton] at h
                 exact h
                ·exact (Z139.out.2 0 _ rfl).1
                ·intro j hj
                 refine (Z139.out.2 (j + 1) ((Z112.drop ((n + j) * 2)).take 2) ?_).1
                 rw [HNW.out, List.singleton_append, List.getElem?_cons_succ, List.getElem?_map, List.getElem?_range hj]
                 rfl
              ·rw [if_neg Z67] at H
               exact absurd H (by simp)
             ·rw [if_neg Z66] at H
              exact absurd H (by simp)
 ·simp only [Option.some.injEq, Prod.mk.injEq] at H
  obtain ⟨rfl, rfl⟩ := H
  go_enter Tryz.func7, Tryz.ntmps7
  go_wp2_with (first | ((with_reducible refine gd 2 rfl ?_); refine bd 2 #[.slice A0 l0.length c0] 25 ?_; intro Z9 Z10 HB Z11 Z12) | ((with_reducible refine gd 3 rfl ?_); refine bf 3 #[.bool a1_0, .string a1_1, .slice A1_2 l1_2.length c1_2] 34 ?_; intro Z13 Z14 hg hb HB Z15 Z16; have Z17 := bn hg (bk Z11); have Z18 := bm hg (bk Z11); replace Z11 := bb (bk Z11) hb; have Z19 := Z17.out; have Z20 := Z18.out; obtain ⟨Z21, Z22⟩ := zc1 Z11; clear hg hb) | ((with_reducible refine gc 11 rfl ?_); refine gy (some 11) Tryz.func11 (impl_ProbeSkyOk.calls _ _ _ _ _ _ (sc Z2) Z3.out Z7.out) ?_; rintro Z23 hb; replace Z11 := bb (bk Z11) hb; replace Z15 := bb (bk Z15) hb; replace HB := bs hb; clear hb))
  go_ret2
  exact ⟨_, re, by first | exact Kd.S_nil _ _ _ _ _ | exact Kd.N_nil _ _ _ _ _ | exact Kd.V_nil _ _ _ _ _ | exact Kd.Q_nil _ _ _ _ _ | exact Kd.R_nil _ _ _ _ _, bq⟩
attribute [local go_sem high] eqA91
end Go.Proofs.YtgklmafdbgnohaaGreat.PA
end
section
namespace Go.Proofs.YtgklmafdbgnohaaGreat.PA
open Go.RowKit Go.Proofs.YtgklmafdbgnohaaGreatW.PrintWords Go.Proofs.YtgklmafdbgnohaaGreatW.PrintLast Go.Proofs.YtgklmafdbgnohaaGreatW.PrintMore Go.Proofs.YtgklmafdbgnohaaGreat.Z Go.Proofs.YtgklmafdbgnohaaGreat.Ik Go.Proofs.YtgklmafdbgnohaaGreat.Ix Go.Proofs.YtgklmafdbgnohaaGreat.Il Go.Proofs.YtgklmafdbgnohaaGreat.Iw Go.Proofs.YtgklmafdbgnohaaGreat.Ir Go.Proofs.YtgklmafdbgnohaaGreat.Is Go.Proofs.YtgklmafdbgnohaaGreat.It
set_option linter.unusedVariables false
set_option linter.unusedSimpArgs false
set_option maxHeartbeats 8000000 in
set_option maxRecDepth 100000 in
theorem impl_ProbeIndexOf.calls (k : Nat) (A0 : Option Addr) (c0 : Nat) (l0 : List S32) (r : List S84) (w : World) (hr0 : Kd.C k32 w A0 l0.length l0) (hc0 : l0.length ≤ c0) (h : impl_ProbeIndexOf.f k l0 = some r) :
  Calls Tryz.prog 6 #[.slice A0 l0.length c0] w fun e w' => ∃ v0_ : Value, e = .returned (.agg #[v0_]) ∧ Kd.S k84 84 w' w.heap.size (fun _ => True) v0_ r ∧ Below w.heap.size w w' := by
 have hu26 := Tryz.underlying28
 have hu42 := Tryz.underlying32
 have hu45 := Tryz.underlying75
 have hu49 := Tryz.underlying77
 have hu52 := Tryz.underlying80
 have hu56 := Tryz.underlying84
 have HR0 := Aside0.mk hr0
 have HC0 := Aside0.mk hc0
 clear hr0 hc0
 have HB := ra (Below.refl w.heap.size w)
 have H : ((impl_ProbeSkyOk.f k l0).bind fun t322 => (if t322 = true then ((Ix.impl l0).bind fun t323 => (some t323)) else (some ([] : List (S84))))) = some r := h
 clear h
 obtain ⟨t322, A2, H⟩ := bo H
 by_cases c3 : t322 = true
 · subst c3
   replace H := it H rfl
   obtain ⟨t323, A4, H⟩ := bo H
   obtain rfl := Option.some.inj H
   have hlim : Aside0 (Small l0 ∧ fin ((evT l0).foldl putM []) = some t323) := by
    have h := A4.out
    unfold Ix.impl at h
    split at h
    · exact ⟨by assumption, h⟩
    · cases h
   clear H A4
   go_enter Tryz.func6, Tryz.ntmps6
   go_upto_block 0 with (first | ((with_reducible refine gate_dst (N := 2) rfl ?_); refine be 2 #[.slice none 0 0] 28 ?_; intro gb hg w5 hbox hb; have _ := bs hb; have _ := ra (hbox); have _ := bz (w0 := w) hg; clear HB; rename_i HB BK GE; clear hb hbox hg) | ((with_reducible refine gate_callee (f := 11) rfl ?_); refine gl (some 13) Tryz.func11 #[.slice A0 l0.length c0] ?_; (with_reducible refine (impl_ProbeSkyOk.calls k _ _ l0 true _ ?side1 ?side2 A2.out).mono ?_); (case side1 => exact sc HR0); (case side2 => exact HC0.out); rintro e w6 ⟨rfl, hb⟩; refine ⟨_, rfl, ?_⟩; have _ := bb (bk BK) hb; have _ := bs hb; clear BK HB; rename_i BK HB; clear hb) | ((with_reducible refine gate_dst (N := 16) rfl ?_); refine Mq.mk_event rfl rfl ?_; intro gm hgm w7 hbm hb; have HM := ra (show MI w gm gb [] [] w7 from ⟨hbm, Mq.rows_nil _ _, blk_below BK.out hb, below_step HB.out hb, by rw [hgm]; exact below_size HB.out, GE.out⟩); clear hb hbm hgm))
   clear BK HB
   go_cut [] (fun wc => ∃ V : Mq.MV, Aside0 (MI w gm gb V ((evT l0).foldl putM []) wc))
   case first =>
    go_wp2_with fail
    go_loopg [19] l0.length (fun kx s19 wr => ∃ (x : Int) (i : Nat) (V : Mq.MV), s19 = .int .i64 x ∧ Aside0 (x = i ∧ i ≤ l0.length ∧ l0.length - i ≤ kx) ∧ Aside0 (MI w gm gb V ((evT (l0.take i)).foldl putM []) wr))
    case atStart => exact ⟨0, 0, [], rfl, ⟨rfl, Nat.zero_le _, Nat.le_refl _⟩, HM⟩
    case round =>
     clear HM
     obtain ⟨x, i, V, rfl, HX, HM⟩ := hrel
     by_cases hlt : i < l0.length
     · have hxz : x < (l0.length : Int) := by have := HX.out.1; omega
       have hx0 : 0 ≤ x := by have := HX.out.1; omega
       obtain ⟨ad, A1, c1, e, ht0, ht1, hl1, hC1⟩ := at_T32 HR0.out x hx0 hxz
       replace ht0 := hc (ra HM.out.bl) ht0
       replace ht1 := hc (ra HM.out.bl) ht1
       have HC1 := Aside0.mk hC1
       have HL1 := Aside0.mk hl1
       clear hl1 hC1
       cases e
       have hx0' := eq_true hx0
       have hxz' := eq_true hxz
       have hTU : Aside0 (rd_T32 l0 x = l0[i]) := ⟨by rw [HX.out.1]; unfold rd_T32; simp [hlt]⟩
       generalize rd_T32 l0 x = tu at ht0 ht1 HC1 HL1 hTU
       go_upto_block 2 with (first | ((with_reducible refine gate_dst (N := 5) rfl ?_); refine be 5 #[.string ⟨#[]⟩, .slice none 0 0] 32 ?_; intro gt hgt w8 hbt hb; have HT := ra hbt; have HMB := ra (show MB w gm gb V _ gt 32 w8 from ⟨HM.out.below hb, ⟨_, hbt⟩, by decide, by rw [hgt]; exact below_size HM.out.bl⟩); obtain ⟨ht2, ht3, ht4, ht5⟩ := zc2 HT; clear hb hbt hgt))
       obtain ⟨w9, hw9⟩ : ∃ w9 : World, w9 = (w8.setCell ⟨gt, 0, none⟩ (.string tu.f0)).setCell ⟨gt, 1, none⟩ (.slice A1 tu.f1.length c1) := ⟨_, rfl⟩
       rw [← hw9]
       have HT9 : Aside0 (w9.heap[gt]? = some (.cells #[.string tu.f0, .slice A1 tu.f1.length c1] 32 (0, 0))) := ⟨by rw [hw9]; exact Z.bp HT⟩
       have HM9 : Aside0 (MB w gm gb V _ gt 32 w9) := ⟨by rw [hw9]; exact (HMB.out.put _ _).put _ _⟩
       clear hw9 HT HMB ht2 ht3 ht4 ht5 ht0 ht1 HM
       go_wp2_with fail
       go_loopg [26] tu.f1.length (fun kx s26 wr2 => ∃ (y : Int) (j : Nat) (V2 : Mq.MV), s26 = .int .i64 y ∧ Aside0 (y = j ∧ j ≤ tu.f1.length ∧ tu.f1.length - j ≤ kx) ∧ Aside0 (MB w gm gb V2 ((evB tu.f0 0 (tu.f1.take j)).foldl putM ((evT (l0.take i)).foldl putM [])) gt 32 wr2) ∧ Aside0 (wr2.heap[gt]? = some (.cells #[.string tu.f0, .slice A1 tu.f1.length c1] 32 (0, 0))))
       case atStart => exact ⟨0, 0, V, rfl, ⟨rfl, Nat.zero_le _, Nat.le_refl _⟩, HM9, HT9⟩
       case round =>
        clear HM9 HT9
        obtain ⟨y, j, V2, rfl, HY, HM, HT⟩ := hrel
        by_cases hlt2 : j < tu.f1.length
        · have hyz : y < (tu.f1.length : Int) := by have := HY.out.1; omega
          have hy0 : 0 ≤ y := by have := HY.out.1; omega
          obtain ⟨ad2, e, hb0, hb1, hb2, hb3, hb4, hb5⟩ := at_T75 HC1.out y hy0 hyz
          cases e
          replace hb0 := hc (ra HM.out.i.bl) hb0
          replace hb1 := hc (ra HM.out.i.bl) hb1
          replace hb2 := hc (ra HM.out.i.bl) hb2
          replace hb3 := hc (ra HM.out.i.bl) hb3
          replace hb4 := hc (ra HM.out.i.bl) hb4
          replace hb5 := hc (ra HM.out.i.bl) hb5
          have hBX : Aside0 (rd_T75 tu.f1 y = tu.f1[j]) := ⟨by rw [HY.out.1]; unfold rd_T75; simp [hlt2]⟩
          generalize rd_T75 tu.f1 y = bx at hb0 hb1 hb2 hb3 hb4 hb5 hBX
          have hy0' := eq_true hy0
          have hyz' := eq_true hyz
          go_upto_region 10 with (first | ((with_reducible refine gate_dst (N := 7) rfl ?_); refine be 7 #[.int .i64 0, .int .i64 0, .int .i64 0, .int .i64 0, .int .i64 0, .int .i64 0] 75 ?_; intro g7 hg7 w10 hbt hb; have HB7 := ra hbt; have HM7 := ra (show MB w gm gb V2 _ g7 75 w10 from ⟨HM.out.i.below hb, ⟨_, hbt⟩, by decide, by rw [hg7]; exact below_size HM.out.i.bl⟩); have HT7 := bb HT.out hb; have N7 := bn hg7 HT.out; obtain ⟨hz0, hz1, hz2, hz3, hz4, hz5, hf0, hf1, hf2, hf3, hf4, hf5⟩ := zc6 HB7; clear hb hbt hg7))
          obtain ⟨w11, hw11⟩ : ∃ w11 : World, w11 = (((((w10.setCell ⟨g7, 0, none⟩ (.int .i64 bx.f0)).setCell ⟨g7, 1, none⟩ (.int .i64 bx.f1)).setCell ⟨g7, 2, none⟩ (.int .i64 bx.f2)).setCell ⟨g7, 3, none⟩ (.int .i64 bx.f3)).setCell ⟨g7, 4, none⟩ (.int .i64 bx.f4)).setCell ⟨g7, 5, none⟩ (.int .i64 bx.f5) := ⟨_, rfl⟩
          rw [← hw11]
          have HB8 : Aside0 (w11.heap[g7]? = some (.cells #[.int .i64 bx.f0, .int .i64 bx.f1, .int .i64 bx.f2, .int .i64 bx.f3, .int .i64 bx.f4, .int .i64 bx.f5] 75 (0, 0))) := ⟨by rw [hw11]; exact Z.bp HB7⟩
          have HM8 : Aside0 (MB w gm gb V2 _ g7 75 w11) := ⟨by rw [hw11]; exact (((((HM7.out.put _ _).put _ _).put _ _).put _ _).put _ _).put _ _⟩
          have HT8 : Aside0 (w11.heap[gt]? = some (.cells #[.string tu.f0, .slice (some ad2) tu.f1.length c1] 32 (0, 0))) := ⟨by rw [hw11]; exact Z.bk HT7⟩
          have HMT : Aside0 (w.heap.size ≤ gt) := ⟨HM.out.hb⟩
          clear hw11 HB7 HM7 HT7 N7 HM HT hz0 hz1 hz2 hz3 hz4 hz5 hf0 hf1 hf2 hf3 hf4 hf5 hb0 hb1 hb2 hb3 hb4 hb5
          obtain ⟨hz0, hz1, hz2, hz3, hz4, hz5, hf0, hf1, hf2, hf3, hf4, hf5⟩ := zc6 HB8
          clear hy0' hyz' hx0' hxz'
          go_upto_region 11 with fail
          obtain ⟨g8, hg8⟩ : ∃ g8 : Nat, g8 = w11.heap.size := ⟨_, rfl⟩
          obtain ⟨w12, hw12⟩ : ∃ w12 : World, w12 = w11.alloc (.cells #[.int .i64 bx.f0, .int .i64 bx.f1] 77) := ⟨_, rfl⟩
          rw [← hw12, ← hg8]
          have HS9 : Aside0 (w12.heap[g8]? = some (.cells #[.int .i64 bx.f0, .int .i64 bx.f1] 77 (0, 0))) := ⟨by rw [hw12, hg8]; exact (Go.MapKept.heap_alloc w11 _).1⟩
          have hb12 : Below w11.heap.size w11 w12 := by rw [hw12]; exact below_alloc (Below.refl _ _) _
          have HM9 : Aside0 (MI w gm gb V2 _ w12) := ⟨HM8.out.i.below hb12⟩
          have HT9 := bb HT8.out hb12
          have HB9 := bb HB8.out hb12
          have hkey : Mq.qidx (bx.f0, bx.f1) V2 = Mq.qidx (bx.f0, bx.f1) _ := Mq.idx_keys HM9.out.r.1
          have HK := ra hkey
          clear hkey
          clear hw12 hg8 hb12 HB8 HM8 HT8 hz0 hz1 hz2 hz3 hz4 hz5 hf0 hf1 hf2 hf3 hf4 hf5
          have HS : Aside0 (∀ c, (Mq.mval c ((evB tu.f0 0 (tu.f1.take j)).foldl putM ((evT (l0.take i)).foldl putM []))).length ≤ 1000000) := ⟨fun c => Nat.le_trans (mval_le c _) (by rw [← List.foldl_append, sum_fold]; have := evT_pre l0 i j hlt; rw [← hTU.out] at this; have := hlim.out.1.1; simp [sumM] at *; omega)⟩
          generalize hM2 : (evB tu.f0 0 (tu.f1.take j)).foldl putM ((evT (l0.take i)).foldl putM []) = M2 at HM9 HK HS
          have HE2 := ra hM2
          clear hM2
          obtain ⟨hz0, hz1, hz2, hz3, hz4, hz5, hf0, hf1, hf2, hf3, hf4, hf5⟩ := zc6 HB9
          obtain ⟨kz0, kz1, kf0, kf1⟩ := zc2 HS9
          obtain ⟨kt0, kt1, kt2, kt3⟩ := zc2 HT9
          clear hf0 hf1 hf2 hf3 hf4 hf5 kf0 kf1 kt2 kt3
          go_upto_region 12 with (first | ((with_reducible refine gate_dst (N := 51) rfl ?_); refine Kd.R_lit k80 (w0 := w) w.heap.size 80 ?hg (N := 51) ?hd (xs := [(⟨bx.f4, bx.f5, bx.f2, bx.f3, tu.f0, y⟩ : S80)]) (inner := [.int .i64 bx.f4, .int .i64 bx.f5, .int .i64 bx.f2, .int .i64 bx.f3, .string tu.f0, .int .i64 y]) (ok := fun _ => True) (okp := fun _ => True) ?hr ?hp (fun _ hk => hk) trivial HM9.out.bl (below_size HM9.out.bl) (by simp) ?_; (case hd => rfl); (case hg => rfl); (case hr => first | (go_simp; done) | (go_simp; rfl)); (case hp => exact (Reps.c6 (show Kd.M k80 _ _ _ (⟨bx.f4, bx.f5, bx.f2, bx.f3, tu.f0, y⟩ : S80) [.int .i64 bx.f4, .int .i64 bx.f5, .int .i64 bx.f2, .int .i64 bx.f3, .string tu.f0, .int .i64 y] from (k80_mkM _ _ _ (⟨bx.f4, bx.f5, bx.f2, bx.f3, tu.f0, y⟩ : S80))) (Reps.none _ _))); intro v51 w13 ho51 hb51 hg51 hn51) | ((with_reducible refine gate_dst (N := 52) rfl ?_); refine Mq.ent_event rfl (.tmp 36) (.tmp 37) rfl (bx.f0, bx.f1) rfl rfl ((HM9.out.keepG hg51).m) ?_; intro w14 hm14 hg14; have HM14 := (HM9.out.keepG hg51).ent (bx.f0, bx.f1) hm14 hg14; have HR14 := (HM9.out.keepG hg51).row (bx.f0, bx.f1) hg14) | ((with_reducible refine gate_dst (N := 53) rfl ?_); obtain ⟨A51, c51, hv51⟩ := Kd.R_slice ho51; subst hv51; refine Kd.R_append_rows k80 (Rr := k80.K w14) (w0 := w) w.heap.size rfl (.tmp 38) (.tmp 51) 78 80 _ _ rfl Tryz.underlying78 info80 rfl (by decide) (by decide) (Mq.qval (bx.f0, bx.f1) V2) (Mq.mval (bx.f0, bx.f1) M2) [(⟨bx.f4, bx.f5, bx.f2, bx.f3, tu.f0, y⟩ : S80)] A51 1 c51 (fun _ => True) (fun _ => False) rfl rfl HR14 (Kd.R_reads' ((HM9.out.keepG hg51).lit ho51 hg14)).2.2 (slot_KM w14 _) (fun _ hk => hk.elim) (fun _ _ => trivial) HM14.bl (below_size HM14.bl) (by have := HS.out (bx.f0, bx.f1); omega) ?_; intro v53 w15 ho53 hb53 hg53 hat53; have HA := HM14.app HK.out HR14 hg53 hat53 ho53) | (refine Mq.sto_event rfl (.tmp 36) (.tmp 54) (.tmp 53) rfl rfl (Mq.qidx (bx.f0, bx.f1) V2) v53 rfl rfl rfl HA.1 HA.2.1 ?_; intro w16 hm16 hg16))
          have HN := HA.2.2 w16 hm16 hg16
          have h13 := (HM9.out.keepG hg51)
          have t13 := (hg51.block gt (blk_lt HT9.out) (by simp)).trans HT9.out
          have t14 := h13.cells t13 hg14
          have t15 := row_cells HR14 t14 (by decide) hg53
          have t16 := (hg16.block gt (blk_lt t15) (fun e => by rw [Option.some.inj e, HA.1] at t15; cases t15)).trans t15
          clear hm14 hg14 hg51 hn51 hb51 ho51 HR14 HM14 ho53 hb53 hg53 hat53 HA hm16 hg16 h13 t13 t14 t15 hz0 hz1 hz2 hz3 hz4 hz5 kz0 kz1 kt0 kt1
          have HN := ra HN
          have HT16 := ra t16
          clear t16
          go_wp2_with fail
          go_roundg (tu.f1.length - (j + 1))
          case measure => have := HY.out.2.2; omega
          case rel =>
           have hts : tu.f1.length ≤ 1000000 := by rw [hTU.out]; exact hlim.out.1.2.2 _ (List.getElem_mem hlt)
           refine ⟨y + 1, j + 1, Mq.qset (Mq.qadd (bx.f0, bx.f1) V2) (Mq.qidx (bx.f0, bx.f1) V2) v53, by congr 1; unfold wrap64; omega, ⟨by have := HY.out.1; omega, by omega, Nat.le_refl _⟩, ?_, HT16⟩
           have e : (evB tu.f0 0 (tu.f1.take (j + 1))).foldl putM ((evT (l0.take i)).foldl putM []) = Mq.mapp M2 (bx.f0, bx.f1) ⟨bx.f4, bx.f5, bx.f2, bx.f3, tu.f0, y⟩ := by
            rw [evB_take _ _ _ _ hlt2, List.foldl_append, HE2.out, ← hBX.out, HY.out.1, Nat.zero_add]
            rfl
           rw [e]
           exact ⟨HN.out, ⟨_, HT16.out⟩, by decide, Nat.le_trans HMT.out (Nat.le_refl _)⟩
        · have hyz : ¬ (y < (tu.f1.length : Int)) := by have := HY.out.1; omega
          go_wp2_with fail
          go_roundg (l0.length - (i + 1))
          case measure => have := HX.out.2.2; omega
          case rel =>
           refine ⟨x + 1, i + 1, V2, by congr 1; unfold wrap64; have := HX.out; have := hlim.out.1.2.1; omega, ⟨by have := HX.out.1; omega, by omega, Nat.le_refl _⟩, ?_⟩
           have e : tu.f1.take j = tu.f1 := List.take_of_length_le (by omega)
           have e2 : (evT (l0.take (i + 1))).foldl putM [] = (evB tu.f0 0 tu.f1).foldl putM ((evT (l0.take i)).foldl putM []) := by rw [foldl_evT l0 i hlt, List.foldl_append, ← hTU.out]
           rw [e2]
           rw [e] at HM
           exact ⟨HM.out.i⟩
     · have hxz : ¬ (x < (l0.length : Int)) := by have := HX.out.1; omega
       go_wp2_with fail
       go_meet
       refine ⟨V, ?_⟩
       have e : l0.take i = l0 := List.take_of_length_le (by omega)
       rw [e] at HM
       exact HM
   case rest =>
    clear HM
    obtain ⟨V, HM⟩ := hcut
    have hne0 : Aside0 (∀ p ∈ (evT l0).foldl putM [], p.2 ≠ []) := ⟨fold_ne _ _ (by simp)⟩
    have hno : Aside0 ((((evT l0).foldl putM []).map Prod.fst).Nodup ∧ ∀ p ∈ (evT l0).foldl putM [], (p.2.map sk).Nodup) := by
     have h := hlim.out.2
     unfold fin at h
     split at h
     · exact ⟨by assumption⟩
     · cases h
    have hsum : Aside0 (sumM ((evT l0).foldl putM []) ≤ 1000000) := ⟨by rw [sum_fold]; have := hlim.out.1.1; simp [sumM]; omega⟩
    have hfin : Aside0 (fin ((evT l0).foldl putM []) = some t323) := ⟨hlim.out.2⟩
    clear hlim HR0 HC0 A2
    generalize (evT l0).foldl putM [] = M at HM hne0 hno hsum hfin
    go_upto_region 15 with (first | ((with_reducible refine gate_dst (N := 9) rfl ?_); refine be 9 #[.slice none 0 0] 28 ?_; intro go hgo w20 hbo hb; have HO := ra hbo; have HM2 := ra (HM.out.below hb); have NG := ra (show go ≠ gb from by rw [hgo]; exact Nat.ne_of_gt (blk_lt HM.out.b)); have LG := ra (show w.heap.size ≤ go from by rw [hgo]; exact below_size HM.out.bl); obtain ⟨ho0, ho1⟩ := zc1 HO; clear hb hbo hgo))
    obtain ⟨w21, hw21⟩ : ∃ w21 : World, w21 = w20.setCell ⟨go, 0, none⟩ (.slice none 0 0) := ⟨_, rfl⟩
    rw [← hw21]
    have HM3 : Aside0 (MI w gm gb V M w21) := ⟨by rw [hw21]; exact HM2.out.own HO.out (by decide) NG.out LG.out _ _⟩
    have HO3 : Aside0 (w21.heap[go]? = some (.cells #[.slice none 0 0] 28 (0, 0))) := ⟨by rw [hw21]; exact Z.bp HO⟩
    clear hw21 HM2 HO HM ho0 ho1
    go_upto_block 4 with (refine Mr.rng_event rfl (.tmp 58) rfl rfl HM3.out.m ?_; intro rr hrr w22 hbr hbelow)
    go_frame
    have HLS : Aside0 (LS w gm gb go rr V M #[] [] [] (.slice none 0 0) w22) := ⟨⟨by rw [msrt_nil]; exact HM3.out.below hbelow, hbr, blk_below HO3.out hbelow, Kd.R_nil _ _ _ _ _, LG.out, by rw [hrr]; exact below_size HM3.out.bl, NG.out⟩⟩
    clear hbr hbelow hrr HM3 HO3 NG LG
    go_wp2_with fail
    go_loopg [] V.length (fun kx wr => ∃ (seen : Array Nat) (vo : Value), Aside0 (seen.toList.Nodup ∧ (∀ i ∈ seen.toList, i < V.length) ∧ V.length - seen.size ≤ kx) ∧ Aside0 (LS w gm gb go rr V M seen seen.toList seen.toList vo wr))
    case atStart => exact ⟨#[], .slice none 0 0, ⟨by simp, by simp, by simp⟩, HLS⟩
    case round =>
     clear HLS
     obtain ⟨seen, vo, HS, HL⟩ := hrel
     go_wp2_with (first | (at_next; refine Mr.nxt_event (seen := seen) (V := V) rfl (.tmp 59) rfl rfl HL.out.it HL.out.i.m ?_ ?_))
     rotate_left
     · intro i cx cy v hV hi w23 hr23 hg23 hs23 hen
       have HL23 := HL.out.next hr23 hg23
       have hi' : i ∉ seen.toList := by simpa using hi
       have hlen := Mq.rows_len HL23.i.r
       have hVl : i < V.length := (List.getElem?_eq_some_iff.1 hV).1
       have hMl : i < M.length := by rw [hlen] at hVl; simpa [msrt] using hVl
       obtain ⟨q, hq⟩ : ∃ q, M[i]? = some q := ⟨M[i], List.getElem?_eq_getElem hMl⟩
       have hq' : (msrt M seen.toList)[i]? = some (q.1, q.2) := by rw [msrt_get, hq]; simp [hi']
       have hkey : q.1 = (cx, cy) := by
        have h := congrArg (fun l => l[i]?) HL23.i.r.1
        simp only [List.getElem?_map, hV, hq', Option.map_some, Option.some.injEq] at h
        exact h.symm
       have hrow : Kd.R k80 80 w23 w.heap.size (fun _ => True) v q.2 := Kd.R_mono (HL23.i.r.2.1 i _ _ hV hq') fun _ _ => trivial
       have hqm : q ∈ M := List.mem_of_getElem? hq
       obtain ⟨g, cap, hv⟩ : ∃ g cap, v = .slice (some ⟨g, 0, none⟩) q.2.length cap := by
        obtain ⟨hl, h⟩ := slots_own hrow
        rcases h with ⟨_, h⟩ | ⟨g, cap, _, h, _⟩
        · exact absurd (List.eq_nil_of_length_eq_zero h) (hne0.out q hqm)
        · exact ⟨g, cap, h⟩
       subst hv
       have HQ : Aside0 (M[i]? = some q ∧ q ∈ M ∧ q.1 = (cx, cy) ∧ V[i]? = some ((cx, cy), .slice (some ⟨g, 0, none⟩) q.2.length cap) ∧ i ∉ seen.toList ∧ i < V.length) := ⟨hq, hqm, hkey, hV, hi', hVl⟩
       have HLN := ra HL23
       have HRW := ra hrow
       replace hen : (Instr.entry (.pointer (some ⟨rr, 0, none⟩))).run Tryz.prog w23 = .ok (.tuple #[.agg #[.int .i64 cx, .int .i64 cy], .slice (some ⟨g, 0, none⟩) q.2.length cap]) w23 := hen
       clear hq hqm hkey hV hi hi' hVl hMl hlen hq' hrow HL23 HL hr23 hg23 hs23
       go_upto_region 18 with fail
       obtain ⟨b2, hb2⟩ : ∃ b2 : Nat, b2 = w23.heap.size + 1 := ⟨_, rfl⟩
       obtain ⟨b1, hb1⟩ : ∃ b1 : Nat, b1 = w23.heap.size := ⟨_, rfl⟩
       obtain ⟨w24, hw24⟩ : ∃ w24 : World, w24 = (w23.alloc (.cells #[.int .i64 cx, .int .i64 cy] 77)).alloc (.cells #[.slice (some ⟨g, 0, none⟩) q.2.length cap] 78) := ⟨_, rfl⟩
       rw [← hw24, ← hb2, ← hb1]
       have hB1 : w24.heap[b1]? = some (.cells #[.int .i64 cx, .int .i64 cy] 77 (0, 0)) := by rw [hw24, hb1]; exact blk_alloc (Go.MapKept.heap_alloc w23 _).1 _
       have hB2 : w24.heap[b2]? = some (.cells #[.slice (some ⟨g, 0, none⟩) q.2.length cap] 78 (0, 0)) := by
        have h := (Go.MapKept.heap_alloc (w23.alloc (.cells #[.int .i64 cx, .int .i64 cy] 77)) (.cells #[.slice (some ⟨g, 0, none⟩) q.2.length cap] 78)).1
        rw [show (w23.alloc (.cells #[.int .i64 cx, .int .i64 cy] 77)).heap.size = w23.heap.size + 1 by simp] at h
        rw [hw24, hb2]
        exact h
       have hb24 : Below w23.heap.size w23 w24 := by rw [hw24]; exact below_alloc (below_alloc (Below.refl _ _) _) _
       have hR24 := Kd.R_below HRW.out hb24
       have HL24 := HLN.out.below hb24
       have hgl : g < w23.heap.size := by
        obtain ⟨cs, hc⟩ := Kd.R_typed HRW.out g rfl
        exact blk_lt hc
       have hn1 : b1 ≠ g := by omega
       have hn2 : b2 ≠ g := by omega
       have hcz : w24.cell? ⟨b2, 0, none⟩ = some (.slice (some ⟨g, 0, none⟩) q.2.length cap) := (blk_cell hB2 0).trans rfl
       have hql : q.2.length ≤ 1000000 := Nat.le_trans (mem_sum HQ.out.2.1) hsum.out
       have hC := sortS (by omega) (hno.out.2 q HQ.out.2.1) hR24 hcz hn2
       clear hb2 hb1 hw24 hb24 hen hgl
       have K1 := ra hB1
       have K2 := ra hB2
       have K3 := ra hR24
       have K4 := ra HL24
       have K5 := ra hn1
       have K6 := ra hn2
       have K7 := ra hC
       clear hB1 hB2 hR24 HL24 hn1 hn2 hC HLN HRW
       go_upto_region 19 with ((with_reducible refine gate_callee (f := 37) rfl ?_); refine gl (some 68) Tryz.func37 #[.iface 78 (.slice (some ⟨g, 0, none⟩) q.2.length cap), .func (.func 38) #[] #[.pointer (some ⟨b2, 0, none⟩)]] ?_; (with_reducible refine K7.out.mono ?_); rintro e w25 ⟨rfl, hg25, hr25⟩; refine ⟨_, rfl, ?_⟩)
       have HL25 := ra (K4.out.sort HQ.out.2.2.2.2.1 HQ.out.2.2.2.1 HQ.out.1 hg25 hr25)
       have C1 : Aside0 (w25.heap[b1]? = some (.cells #[.int .i64 cx, .int .i64 cy] 77 (0, 0))) := ⟨(hg25.block b1 (blk_lt K1.out) (by simpa using K5.out)).trans K1.out⟩
       have C2 : Aside0 (w25.heap[b2]? = some (.cells #[.slice (some ⟨g, 0, none⟩) q.2.length cap] 78 (0, 0))) := ⟨(hg25.block b2 (blk_lt K2.out) (by simpa using K6.out)).trans K2.out⟩
       have C3 := ra HL25.out.o
       clear hg25 hr25 K1 K2 K3 K4 K5 K6 K7 hcz
       obtain ⟨ca1, ca2, _, _⟩ := zc2 C1
       obtain ⟨cb1, _⟩ := zc1 C2
       obtain ⟨co1, _⟩ := zc1 C3
       have hlm : V.length = M.length := by have := Mq.rows_len HL25.out.i.r; simpa [msrt] using this
       have hss : seen.size < V.length := by have := len_lt HS.out.1 HS.out.2.1 HQ.out.2.2.2.2.1 HQ.out.2.2.2.2.2; simpa using this
       have HV : Aside0 (V.length ≤ 1000000 ∧ seen.size < V.length) := ⟨by have := len_sum hne0.out; have := hsum.out; omega, hss⟩
       clear hlm hss
       go_upto_block 100 with ((with_reducible refine gate_dst (N := 78) rfl ?_); refine Kd.R_append (Kd.raw 3) (w0 := w) w.heap.size rfl (.tmp 70) (.tmp 77) 26 84 _ _ rfl Tryz.underlying26 info84 rfl (by decide) (by decide) vo (seen.toList.map fun i => encC (tri V M i)) [.int .i64 cx, .int .i64 cy, .slice (some ⟨g, 0, none⟩) q.2.length cap] [.int .i64 cx, .int .i64 cy, .slice (some ⟨g, 0, none⟩) q.2.length cap] (fun _ => True) (fun k => True ∧ some k ≠ vo.ownBlock) rfl rfl ⟨rfl, rfl, by intro u hu; simp at hu; rcases hu with rfl | rfl | rfl <;> rfl⟩ (fun _ hk => hk) (fun _ _ => trivial) HL25.out.row HL25.out.i.bl (below_size HL25.out.i.bl) (by have := HV.out; simp; omega) ?_; intro v78 w26 ho78 hb78 hg78 hat78; obtain ⟨A78, c78, hv78⟩ := Kd.R_slice ho78; subst hv78; have HA := HL25.out.app hg78 ho78; have HG := ra HA.1; obtain ⟨cg, cf⟩ := zc1 HG)
       have HN := HA.2 (seen.push i).toList (by rw [Array.toList_push, List.map_append, List.map_singleton, enc_tri HQ.out.2.2.2.1])
       rw [← Array.toList_push] at HN
       have hz : (List.map (fun i => encC (tri V M i)) seen.toList ++ [[Value.int .i64 cx, Value.int .i64 cy, Value.slice (some ⟨g, 0, none⟩) q.2.length cap]]).length = seen.size + 1 := by simp
       rw [hz] at HN
       have HN := ra HN
       have hi' := HQ.out.2.2.2.2.1
       have hiV := HQ.out.2.2.2.2.2
       go_roundg (V.length - (seen.size + 1))
       case measure => have := HS.out.2.2; have := HV.out.2; omega
       case rel =>
        refine ⟨seen.push i, .slice A78 (seen.size + 1) c78, ⟨?_, ?_, by simp⟩, HN⟩
        · rw [Array.toList_push]
          exact List.nodup_append.2 ⟨HS.out.1, by simp, fun a ha b hb => by
            rw [List.mem_singleton] at hb
            rintro rfl
            exact hi' (hb ▸ ha)⟩
        · intro j hj
          rw [Array.toList_push, List.mem_append, List.mem_singleton] at hj
          rcases hj with hj | rfl
          · exact HS.out.2.1 j hj
          · exact hiV
     · intro hall
       have hF := It.LS.fin HL.out HS.out.1 HS.out.2.1 (fun i hi => by simpa using hall i hi) hfin.out
       have hlD : (seen.toList.map (tri V M)).length ≤ 1000000000 := by
        have h1 := List.Nodup.length_le_of_subset (l₁ := seen.toList) (l₂ := List.range V.length) HS.out.1 (fun j hj => by simpa using HS.out.2.1 j hj)
        have hlm : V.length = M.length := by have := Mq.rows_len HL.out.i.r; simpa [msrt] using this
        have h2 := len_sum hne0.out
        have h3 := hsum.out
        simp at h1 ⊢
        omega
       obtain ⟨A, c, hv⟩ := Kd.R_slice HL.out.row
       obtain ⟨n, hn⟩ : ∃ n, n = (List.map (fun i => encC (tri V M i)) seen.toList).length := ⟨_, rfl⟩
       rw [← hn] at hv
       clear hn
       subst hv
       have hty : ∀ k, (Value.slice A n c).ownBlock = some k → ∃ cs, wr.heap[k]? = some (.cells cs 84 (0, 0)) := fun k hk => Kd.R_typed HL.out.row k hk
       have hC := sortAny hlD hF.2.1 hF.1 ((blk_cell HL.out.o 0).trans rfl) (fun e => by
        obtain ⟨cs, hc⟩ := hty go e.symm
        rw [HL.out.o] at hc
        injection hc with hc
        injection hc with _ hc
        exact absurd hc (by decide))
       have hob : ∀ k, (Value.slice A n c).ownBlock = some k → w.heap.size ≤ k := fun k hk => own_base hF.1 k hk
       have hF2 := hF.2.2
       have K1 := ra hC
       have K2 := ra hF2
       have K3 := ra hty
       have K4 := ra hob
       have hco : wr.cell? ⟨go, 0, none⟩ = some (.slice A n c) := (blk_cell HL.out.o 0).trans rfl
       clear hC hF2 hF hlD hty hob hall
       go_upto_region 21 with ((with_reducible refine gate_callee (f := 37) rfl ?_); refine gl (some 84) Tryz.func37 #[.iface 26 (.slice A n c), .func (.func 39) #[] #[.pointer (some ⟨go, 0, none⟩)]] ?_; (with_reducible refine K1.out.mono ?_); rintro e w27 ⟨rfl, hg27, ho27⟩; refine ⟨_, rfl, ?_⟩)
       have hS := K2.out _ hg27 ho27
       have hgo : w27.heap[go]? = some (.cells #[.slice A n c] 28 (0, 0)) := (hg27.block go (blk_lt HL.out.o) (fun e => by
        obtain ⟨cs, hc⟩ := K3.out go e.symm
        rw [HL.out.o] at hc
        injection hc with hc
        injection hc with _ hc
        exact absurd hc (by decide))).trans HL.out.o
       have hgb : w27.heap[gb]? = some (.cells #[.slice none 0 0] 28 (0, 0)) := (hg27.block gb (blk_lt HL.out.i.b) (fun e => by
        obtain ⟨cs, hc⟩ := K3.out gb e.symm
        rw [HL.out.i.b] at hc
        injection hc with hc
        injection hc with _ hc
        exact absurd hc (by decide))).trans HL.out.i.b
       have hbl : Below w.heap.size w w27 := HL.out.i.bl.grown hg27 HL.out.i.bl.size (fun j hj => K4.out j hj)
       have L1 := ra hS
       have L2 := ra hgo
       have L3 := ra hgb
       have L4 := ra hbl
       clear hS hgo hgb hbl hg27 ho27 K1 K2 K3 K4 hco
       obtain ⟨cg, cf⟩ := zc1 L2
       obtain ⟨cb, cbf⟩ := zc1 L3
       go_wp2_with fail
       have hW : (w27.setCell ⟨gb, 0, none⟩ (.slice A n c)).heap[gb]? = some (.cells #[.slice A n c] 28 (0, 0)) := Z.bp L3
       refine bodyPost_ret (results_cell_row rfl _ _ gb 28 #[.slice A n c] (0, 0) _ rfl hW Tryz.underlying28 rfl (by kernel_rfl)) rfl ?_
       exact ⟨_, re, Kd.S_mono (Kd.S_far (p := ⟨gb, 0, none⟩) (Kd.S_types L1.out L3.out (by decide)) (fun _ hk => hk.2) (.slice A n c)) (fun _ h_ => h_.1), below_set L4.out GE.out⟩
 · replace c3 := Bool.eq_false_iff.mpr c3
   subst c3
   have H1 : (some ([] : List (S84))) = some r := by rw [if_neg (show ¬ (false = true) by decide)] at H; exact H
   clear H
   have H := H1
   clear H1
   obtain rfl := Option.some.inj H
   go_enter Tryz.func6, Tryz.ntmps6
   go_wp2_with (first | ((with_reducible refine gate_dst (N := 2) rfl ?_); refine be 2 #[.slice none 0 0] 28 ?_; intro gb321 hg w10 hbox hb; have _ := bs hb; have _ := ra (hbox); have _ := bz (w0 := w) hg; have _ := bz (w0 := w) hg; clear HB; rename_i HB BK321 GW321 GE321; clear hb hbox hg) | ((with_reducible refine gate_callee (f := 11) rfl ?_); refine gl (some 13) Tryz.func11 #[.slice A0 l0.length c0] ?_; (with_reducible refine (impl_ProbeSkyOk.calls k _ _ l0 false _ ?side1 ?side2 A2.out).mono ?_); (case side1 => exact sc HR0); (case side2 => exact HC0.out); rintro e w11 ⟨rfl, hb⟩; refine ⟨_, rfl, ?_⟩; have _ := bb (bk BK321) hb; have _ := bs hb; clear BK321 HB; rename_i BK321 HB; (try clear hb); (try clear hb2); (try clear hk); (try clear hi); obtain ⟨hcz12_0, hfz12_0⟩ := zc1 BK321))
   refine bodyPost_ret (results_cell_row rfl _ _ gb321 28 #[.slice none 0 0] (0, 0) _ rfl (bp BK321) Tryz.underlying28 rfl (by kernel_rfl)) rfl ?_
   exact ⟨_, re, by first | exact Kd.S_nil _ _ _ _ _ | exact Kd.N_nil _ _ _ _ _, bq⟩
end Go.Proofs.YtgklmafdbgnohaaGreat.PA
end
section
namespace Go.Proofs.YtgklmafdbgnohaaGreat.PA
open Go.RowKit Go.Proofs.YtgklmafdbgnohaaGreatW.PrintWords Go.Proofs.YtgklmafdbgnohaaGreatW.PrintLast Go.Proofs.YtgklmafdbgnohaaGreatW.PrintMore Go.Proofs.YtgklmafdbgnohaaGreat.Z
attribute [local go_sem] max2_int min2_int max_two min_two max_three min_three max_four min_four
set_option linter.unusedVariables false
set_option linter.unusedSimpArgs false
attribute [local go_sem high] eqA75
set_option maxHeartbeats 8000000 in
set_option maxRecDepth 100000 in
theorem impl_ProbeFollow.calls (k : Nat) (A0_0 : Option Addr) (c0_0 : Nat) (l0_0 : List (S84)) (A1 : Option Addr) (c1 : Nat) (l1 : List (S32)) (a2_0 : Bool) (a2_1 : ByteArray) (A2_2 : Option Addr) (c2_2 : Nat) (l2_2 : List (S75)) (r : List (S84)) (w : World) (hr0_0 : Kd.C k84 w A0_0 l0_0.length l0_0) (hc0_0 : l0_0.length ≤ c0_0) (hr1 : Kd.C k32 w A1 l1.length l1) (hc1 : l1.length ≤ c1) (hr2_2 : Kd.C k75 w A2_2 l2_2.length l2_2) (hc2_2 : l2_2.length ≤ c2_2) (h : impl_ProbeFollow.f k l0_0 l1 a2_0 a2_1 l2_2 = some r) :
  Calls Tryz.prog 10 #[.agg #[.slice A0_0 l0_0.length c0_0], .slice A1 l1.length c1, .agg #[.bool a2_0, .string a2_1, .slice A2_2 l2_2.length c2_2]] w fun e w' => ∃ v0_ : Value, e = .returned (.agg #[v0_]) ∧ Kd.S k84 84 w' w.heap.size (fun _ => True) v0_ r ∧ Below w.heap.size w w' := by
 have hu28 := Tryz.underlying28
 have hu34 := Tryz.underlying34
 have HR0_0 := Aside0.mk hr0_0
 have HC0_0 := Aside0.mk hc0_0
 clear hr0_0 hc0_0
 have HR1 := Aside0.mk hr1
 have HC1 := Aside0.mk hc1
 clear hr1 hc1
 have HR2_2 := Aside0.mk hr2_2
 have HC2_2 := Aside0.mk hc2_2
 clear hr2_2 hc2_2
 have HB := ra (Below.refl w.heap.size w)
 have H : ((impl_ProbeHappen.f k l1 a2_0 a2_1 l2_2).bind fun bt457 => ((impl_ProbeIndexOf.f k bt457.1).bind fun t461 => (some t461))) = some r := h
 clear h
 obtain ⟨⟨t457, t460⟩, A4, H⟩ := bo H
 try dsimp only at H
 obtain ⟨t461, A5, H⟩ := bo H
 obtain rfl := Option.some.inj H
 go_enter Tryz.func10, Tryz.ntmps10
 go_wp2_with (first | ((with_reducible refine gate_dst (N := 3) rfl ?_); refine be 3 #[.slice A0_0 l0_0.length c0_0] 28 ?_; intro gb454 hg w6 hbox hb; have _ := bs hb; have _ := ra (hbox); have _ := bz (w0 := w) hg; have _ := bz (w0 := w) hg; clear HB; rename_i HB BK454 GW454 GE454; clear hb hbox hg) | ((with_reducible refine gate_dst (N := 5) rfl ?_); refine be 5 #[.bool a2_0, .string a2_1, .slice A2_2 l2_2.length c2_2] 34 ?_; intro gb455 hg w7 hbox hb; have _ := bb (bk BK454) hb; have _ := bs hb; have _ := ra (hbox); have _ := bz (w0 := w) hg; have _ := bz (w0 := w) hg; have _ := bn hg (bk BK454); have _ := bm hg (bk BK454); clear BK454 HB; rename_i BK454 HB BK455 GW455 GE455 NB454_455 NB455_454; clear hb hbox hg) | ((with_reducible refine gate_dst (N := 6) rfl ?_); refine be 6 #[.slice none 0 0] 28 ?_; intro gb456 hg w8 hbox hb; have _ := bb (bk BK454) hb; have _ := bb (bk BK455) hb; have _ := bs hb; have _ := ra (hbox); have _ := bz (w0 := w) hg; have _ := bz (w0 := w) hg; have _ := bn hg (bk BK454); have _ := bm hg (bk BK454); have _ := bn hg (bk BK455); have _ := bm hg (bk BK455); clear BK454 BK455 HB; rename_i BK454 BK455 HB BK456 GW456 GE456 NB454_456 NB456_454 NB455_456 NB456_455; clear hb hbox hg; have hnb9 := NB455_454.out; have hnc9 := NB454_455.out; have hnb10 := NB455_456.out; have hnc10 := NB456_455.out; have hcz11_0 : w8.cell? ⟨gb455, 0, none⟩ = some (.bool a2_0) := (blk_cell BK455.out 0).trans rfl; have hcz11_1 : w8.cell? ⟨gb455, 1, none⟩ = some (.string a2_1) := (blk_cell BK455.out 1).trans rfl; have hcz11_2 : w8.cell? ⟨gb455, 2, none⟩ = some (.slice A2_2 l2_2.length c2_2) := (blk_cell BK455.out 2).trans rfl; have hfz11_0 := blk_frozen BK455.out 0; have hfz11_1 := blk_frozen BK455.out 1; have hfz11_2 := blk_frozen BK455.out 2) | ((with_reducible refine gate_callee (f := 7) rfl ?_); refine gl (some 12) Tryz.func7 #[.slice A1 l1.length c1, .agg #[.bool a2_0, .string a2_1, .slice A2_2 l2_2.length c2_2]] ?_; (with_reducible refine (impl_ProbeHappen.calls k _ _ l1 a2_0 a2_1 _ _ l2_2 t457 t460 _ ?side1 ?side2 ?side3 ?side4 A4.out).mono ?_); (case side1 => exact sc HR1); (case side2 => exact HC1.out); (case side3 => exact sc HR2_2); (case side4 => exact HC2_2.out); rintro e w12 ⟨v458, rfl, ho0, hb⟩; refine ⟨_, rfl, ?_⟩; have _ := ra (Kd.S_lower ho0 (below_size bq)); have _ := bb (bk BK454) hb; have _ := bb (bk BK455) hb; have _ := bb (bk BK456) hb; have _ := bs hb; clear BK454 BK455 BK456 HB; rename_i HO459 BK454 BK455 BK456 HB; (try clear hb); (try clear hb2); (try clear hk); (try clear hi); (try clear ho0); obtain ⟨Ao13, co13, eo13⟩ := Kd.S_slice HO459.out; subst eo13) | ((with_reducible refine gate_callee (f := 6) rfl ?_); refine gl (some 16) Tryz.func6 #[.slice Ao13 t457.length co13] ?_; (with_reducible refine (impl_ProbeIndexOf.calls k _ _ t457 t461 _ ?side1 ?side2 A5.out).mono ?_); (case side1 => repeat (first | exact (Kd.S_reads' HO459.out).2.2 | (with_reducible refine Kd.C_alloc ?_ _) | (with_reducible refine Kd.C_drewN ?_ _) | (with_reducible refine Kd.C_drew ?_))); (case side2 => exact (Kd.S_reads' HO459.out).2.1); rintro e w14 ⟨v462, rfl, ho0, hb⟩; refine ⟨_, rfl, ?_⟩; have _ := ra (Kd.S_below (by (with_reducible repeat (first | apply Kd.S_alloc | apply Kd.S_drewN | apply Kd.S_drew)); exact HO459.out) hb); have _ := ra (Kd.S_lower ho0 (below_size bq)); have _ := bb (bk BK454) hb; have _ := bb (bk BK455) hb; have _ := bb (bk BK456) hb; have _ := bs hb; clear HO459 BK454 BK455 BK456 HB; rename_i HO459 HO463 BK454 BK455 BK456 HB; (try clear hb); (try clear hb2); (try clear hk); (try clear hi); (try clear ho0); obtain ⟨Ao15, co15, eo15⟩ := Kd.S_slice HO463.out; subst eo15; have hnb16 := NB456_454.out; have hnc16 := NB454_456.out; obtain ⟨hcz17_0, hfz17_0⟩ := zc1 BK456))
 refine bodyPost_ret (results_cell_row rfl _ _ gb456 28 #[.slice Ao15 t461.length co15] (0, 0) _ rfl (bp BK456) Tryz.underlying28 rfl (by kernel_rfl)) rfl ?_
 exact ⟨_, re, by (with_reducible repeat (first | apply Kd.S_alloc | apply Kd.S_drewN | apply Kd.S_drew)); exact Kd.S_mono (Kd.S_far (p := ⟨gb456, 0, none⟩) (Kd.S_types HO463.out BK456.out (by decide)) (fun _ hk => hk.2) (.slice Ao15 t461.length co15)) (fun _ hk => trivial), bq⟩
end Go.Proofs.YtgklmafdbgnohaaGreat.PA
end
section
namespace Go.Proofs.YtgklmafdbgnohaaGreat.PA
open Go.RowKit Go.Proofs.YtgklmafdbgnohaaGreatW.PrintWords Go.Proofs.YtgklmafdbgnohaaGreatW.PrintLast Go.Proofs.YtgklmafdbgnohaaGreatW.PrintMore Go.Proofs.YtgklmafdbgnohaaGreat.Z
attribute [local go_sem] max2_int min2_int max_two min_two max_three min_three max_four min_four
set_option linter.unusedVariables false
set_option maxHeartbeats 8000000
set_option maxRecDepth 100000
set_option linter.unusedSimpArgs false
theorem laws_eqProbeSlot.calls (a0_0 a0_1 a0_2 a0_3 : Int) (a0_4 : ByteArray) (a0_5 a1_0 a1_1 a1_2 a1_3 : Int) (a1_4 : ByteArray) (a1_5 : Int) (r : Bool) (w : World) (h : laws_eqProbeSlot.f a0_0 a0_1 a0_2 a0_3 a0_4 a0_5 a1_0 a1_1 a1_2 a1_3 a1_4 a1_5 = some r) :
  Calls Tryz.prog 142 #[.agg #[.int .i64 a0_0, .int .i64 a0_1, .int .i64 a0_2, .int .i64 a0_3, .string a0_4, .int .i64 a0_5], .agg #[.int .i64 a1_0, .int .i64 a1_1, .int .i64 a1_2, .int .i64 a1_3, .string a1_4, .int .i64 a1_5]] w fun e w' => e = .returned (.bool r) ∧ Below w.heap.size w w' := by
 have Z0 := Tryz.underlying80
 have HB := ra (Below.refl w.heap.size w)
 have H := h; unfold laws_eqProbeSlot.f at H
 clear h
 rcases ed H with ⟨-, Z1, Z2, H⟩ | ⟨Z3, Z1, Z2, H⟩
 rcases ed H with ⟨-, Z4, Z5, H⟩ | ⟨Z6, Z4, Z5, H⟩
 rcases ed H with ⟨-, Z7, Z8, H⟩ | ⟨Z9, Z7, Z8, H⟩
 rcases ed H with ⟨-, Z10, Z11, H⟩ | ⟨Z12, Z10, Z11, H⟩
 rcases ed H with ⟨-, Z13, Z14, H⟩ | ⟨Z15, Z13, Z14, H⟩
 rcases ed H with ⟨-, Z16, Z17, H⟩ | ⟨Z18, Z16, Z17, H⟩
 rotate_left
 rotate_left
 rotate_left
 rotate_left
 rotate_left
 rotate_left
 rotate_left
 all_goals
  obtain rfl := Option.some.inj H
  go_enter Tryz.func142, Tryz.ntmps142
  go_wp2_with (first | ((with_reducible refine gd 2 rfl ?_); refine bd 2 #[.int .i64 a0_0, .int .i64 a0_1, .int .i64 a0_2, .int .i64 a0_3, .string a0_4, .int .i64 a0_5] 80 ?_; intro Z19 Z20 HB Z21 Z22) | ((with_reducible refine gd 3 rfl ?_); refine bf 3 #[.int .i64 a1_0, .int .i64 a1_1, .int .i64 a1_2, .int .i64 a1_3, .string a1_4, .int .i64 a1_5] 80 ?_; intro Z23 Z24 hg hb HB Z25 Z26; have Z27 := bn hg (bk Z21); have Z28 := bm hg (bk Z21); replace Z21 := bb (bk Z21) hb; have Z29 := Z27.out; have Z30 := Z28.out; obtain ⟨Z31, Z32, Z33, Z34, Z35, Z36, Z37, Z38, Z39, Z40, Z41, Z42⟩ := zc6 Z21; obtain ⟨Z43, Z44, Z45, Z46, Z47, Z48, Z49, Z50, Z51, Z52, Z53, Z54⟩ := zc6 Z25; clear hg hb))
  go_ret
  exact ⟨re, bq⟩
def laws_eqProbeSlotS.T6 : Bool × List (List Nat × List Nat) := (true, [([], []), ([], []), ([0, 1], [0, 1]), ([2], [2]), ([], []), ([], []), ([4, 5], [4, 5]), ([6], [6]), ([3, 7], [3, 7]), ([8], [8])])
def laws_eqProbeSlotS.B6 : List Nat := [0, 0, 3, 7, 0, 0, 48, 112, 255, 511]
theorem laws_eqProbeSlotS.tab6 : rtab .any (opsOf Tryz.f120 6) = laws_eqProbeSlotS.T6 := by kernel_rfl
theorem laws_eqProbeSlotS.bits6 : waitsOk laws_eqProbeSlotS.T6.2 laws_eqProbeSlotS.B6 = true := by kernel_rfl
theorem laws_eqProbeSlotS.calls (k : Nat) (A0 : Option Addr) (c0 : Nat) (l0 : List (S80)) (A1 : Option Addr) (c1 : Nat) (l1 : List (S80)) (r : Bool) (w : World) (hr0 : Kd.C k80 w A0 l0.length l0) (hc0 : l0.length ≤ c0) (hr1 : Kd.C k80 w A1 l1.length l1) (hc1 : l1.length ≤ c1) (h : laws_eqProbeSlotS.f k l0 l1 = some r) :
  Calls Tryz.prog 120 #[.slice A0 l0.length c0, .slice A1 l1.length c1] w fun e w' => e = .returned (.bool r) ∧ Below w.heap.size w w' := by
 have Z0 := Tryz.underlying80
 have Z1 := ra hr0
 have Z2 := ra hc0
 clear hr0 hc0
 have Z3 := ra hr1
 have Z4 := ra hc1
 clear hr1 hc1
 have HB := ra (Below.refl w.heap.size w)
 have H := h; unfold laws_eqProbeSlotS.f at H
 clear h
 rcases ed H with ⟨Z5, Z6, Z7, H⟩ | ⟨Z5, Z6, Z7, H⟩
 ·have Z8 : (l0.length == l1.length) = true := by first | simpa using Z5 | (simp at Z5 ⊢; omega)
  clear Z5
  have H' := ra H; clear H
  go_enter Tryz.func120, Tryz.ntmps120
  go_wp2
  go_loopg [5] k (fun kq v5 w' => ∃ (x5_1 : Int), v5 = .int .i64 x5_1 ∧ Aside0 (laws_eqProbeSlotS.l0 kq l0 l1 x5_1 = some r) ∧ Aside0 (kq ≤ k) ∧ Aside0 (Below w.heap.size w w'))
  case atStart => exact ⟨_, rs, H', ⟨Nat.le_refl _⟩, ⟨bq⟩⟩
  case round =>
   clear H'
   try clear c1
   try clear Z5
   try clear Z6
   try clear Z7
   try clear Z8
   obtain ⟨Z9, rfl, HA, Z10, HB⟩ := hrel
   cases gk with
   | zero => exact absurd HA.out (by simp [laws_eqProbeSlotS.l0])
   | succ Z11 =>
    have H := HA.out
    clear HA
    simp only [laws_eqProbeSlotS.l0] at H
    rcases td H with ⟨Z12, H⟩ | ⟨Z12, H⟩
    ·obtain ⟨Z13, H⟩ := tn H
     obtain ⟨Z14, H⟩ := tn H
     obtain ⟨Z15, Z16, H⟩ := bo H
     rcases ud H with ⟨rfl, Z17⟩ | ⟨rfl, Z17⟩ <;> have H := Z17
     ·have H' := ra H; clear H
      try go_wp2
      have _ := ra (below_drew1 HB.out)
      clear HB
      rename_i HB
      have Z18 : 0 ≤ (Z9 : Int) := od
      have Z19 : Z9 < (l0.length : Int) := od
      obtain ⟨Z20, Z21, Z22, Z23, Z24, Z25, Z26, Z27⟩ := at_T80 Z1.out Z9 Z18 Z19
      have Z28 := Z27
      have Z29 := Z26
      have Z30 := Z25
      have Z31 := Z24
      have Z32 := Z23
      have Z33 := Z22
      cases Z21
      replace Z22 := hc HB Z22
      replace Z23 := hc HB Z23
      replace Z24 := hc HB Z24
      replace Z25 := hc HB Z25
      replace Z26 := hc HB Z26
      replace Z27 := hc HB Z27
      replace Z18 := eq_true Z18
      replace Z19 := eq_true Z19
      have Z34 : 0 ≤ (Z9 : Int) := od
      have Z35 : Z9 < (l1.length : Int) := od
      obtain ⟨Z36, Z37, Z38, Z39, Z40, Z41, Z42, Z43⟩ := at_T80 Z3.out Z9 Z34 Z35
      have Z44 := Z43
      have Z45 := Z42
      have Z46 := Z41
      have Z47 := Z40
      have Z48 := Z39
      have Z49 := Z38
      cases Z37
      replace Z38 := hc HB Z38
      replace Z39 := hc HB Z39
      replace Z40 := hc HB Z40
      replace Z41 := hc HB Z41
      replace Z42 := hc HB Z42
      replace Z43 := hc HB Z43
      replace Z34 := eq_true Z34
      replace Z35 := eq_true Z35
      refine start_ (n := 10) (S := fun w' => w'.cell? (Z20.add ((Z9).toNat * 6)) = some (.int .i64 ((rd_T80 l0 Z9).f0)) ∧ w'.cell? ⟨(Z20.add ((Z9).toNat * 6)).block, (Z20.add ((Z9).toNat * 6)).off + 1, none⟩ = some (.int .i64 ((rd_T80 l0 Z9).f1)) ∧ w'.cell? ⟨(Z20.add ((Z9).toNat * 6)).block, (Z20.add ((Z9).toNat * 6)).off + 2, none⟩ = some (.int .i64 ((rd_T80 l0 Z9).f2)) ∧ w'.cell? ⟨(Z20.add ((Z9).toNat * 6)).block, (Z20.add ((Z9).toNat * 6)).off + 3, none⟩ = some (.int .i64 ((rd_T80 l0 Z9).f3)) ∧ w'.cell? ⟨(Z20.add ((Z9).toNat * 6)).block, (Z20.add ((Z9).toNat * 6)).off + 4, none⟩ = some (.string ((rd_T80 l0 Z9).f4)) ∧ w'.cell? ⟨(Z20.add ((Z9).toNat * 6)).block, (Z20.add ((Z9).toNat * 6)).off + 5, none⟩ = some (.int .i64 ((rd_T80 l0 Z9).f5)) ∧ w'.cell? (Z36.add ((Z9).toNat * 6)) = some (.int .i64 ((rd_T80 l1 Z9).f0)) ∧ w'.cell? ⟨(Z36.add ((Z9).toNat * 6)).block, (Z36.add ((Z9).toNat * 6)).off + 1, none⟩ = some (.int .i64 ((rd_T80 l1 Z9).f1)) ∧ w'.cell? ⟨(Z36.add ((Z9).toNat * 6)).block, (Z36.add ((Z9).toNat * 6)).off + 2, none⟩ = some (.int .i64 ((rd_T80 l1 Z9).f2)) ∧ w'.cell? ⟨(Z36.add ((Z9).toNat * 6)).block, (Z36.add ((Z9).toNat * 6)).off + 3, none⟩ = some (.int .i64 ((rd_T80 l1 Z9).f3)) ∧ w'.cell? ⟨(Z36.add ((Z9).toNat * 6)).block, (Z36.add ((Z9).toNat * 6)).off + 4, none⟩ = some (.string ((rd_T80 l1 Z9).f4)) ∧ w'.cell? ⟨(Z36.add ((Z9).toNat * 6)).block, (Z36.add ((Z9).toNat * 6)).off + 5, none⟩ = some (.int .i64 ((rd_T80 l1 Z9).f5))) (ds := []) (bl 10 0) (by kernel_rfl) rfl rfl ⟨(hc HB Z33), (hc HB Z32), (hc HB Z31), (hc HB Z30), (hc HB Z29), (hc HB Z28), (hc HB Z49), (hc HB Z48), (hc HB Z47), (hc HB Z46), (hc HB Z45), (hc HB Z44)⟩ (fun hHeld => ?_); refine with_tabW laws_eqProbeSlotS.tab6 laws_eqProbeSlotS.bits6 (fun HT_ HW_ => ?_)
      generalize wr.drew = Z50 at HB Z22 Z23 Z24 Z25 Z26 Z27 Z38 Z39 Z40 Z41 Z42 Z43 hHeld ⊢
      refine pu 0 17 (bl 10 1) ?_
      refine pu 1 18 (bl 10 3) ?_
      refine pu 2 19 (bl 10 7) ?_
      refine pu 4 21 (bl 10 23) ?_
      refine pu 5 22 (bl 10 55) ?_
      refine pu 6 23 (bl 10 119) ?_
      refine tk 3 20 (bl 10 127) ?_ hHeld
      refine tk 7 24 (bl 10 255) ?_ hHeld
      refine oe 8 25 (bl 10 511) (fun K hK => ?_)
      refine gs Tryz.func142 #[.agg #[.int .i64 ((rd_T80 l0 Z9).f0), .int .i64 ((rd_T80 l0 Z9).f1), .int .i64 ((rd_T80 l0 Z9).f2), .int .i64 ((rd_T80 l0 Z9).f3), .string ((rd_T80 l0 Z9).f4), .int .i64 ((rd_T80 l0 Z9).f5)], .agg #[.int .i64 ((rd_T80 l1 Z9).f0), .int .i64 ((rd_T80 l1 Z9).f1), .int .i64 ((rd_T80 l1 Z9).f2), .int .i64 ((rd_T80 l1 Z9).f3), .string ((rd_T80 l1 Z9).f4), .int .i64 ((rd_T80 l1 Z9).f5)]] ?_
      with_reducible refine (laws_eqProbeSlot.calls ((rd_T80 l0 Z9).f0) ((rd_T80 l0 Z9).f1) ((rd_T80 l0 Z9).f2) ((rd_T80 l0 Z9).f3) ((rd_T80 l0 Z9).f4) ((rd_T80 l0 Z9).f5) ((rd_T80 l1 Z9).f0) ((rd_T80 l1 Z9).f1) ((rd_T80 l1 Z9).f2) ((rd_T80 l1 Z9).f3) ((rd_T80 l1 Z9).f4) ((rd_T80 l1 Z9).f5) true _ Z16.out).mono ?_
      rintro e Z51 ⟨rfl, hb⟩
      refine ⟨_, rfl, ?_⟩
      have _ := bs hb
      clear HB
      rename_i HB
      (try clear hb)
      refine hK.out _ _ ⟨(hc HB Z33), (hc HB Z32), (hc HB Z31), (hc HB Z30), (hc HB Z29), (hc HB Z28), (hc HB Z49), (hc HB Z48), (hc HB Z47), (hc HB Z46), (hc HB Z45), (hc HB Z44)⟩ (fun hHeld => ?_)
      clear hK K
      refine nm 25 ?_
      refine pu 9 26 (bl 10 1023) ?_
      refine done_ (done_of HT_.out (by kernel_rfl)) ?_
      try go_wp2
      go_roundg Z11
      case measure => have := Z10.out; omega
      case rel => exact ⟨_, rs, H', ⟨by have := Z10.out; omega⟩, ⟨bq⟩⟩
     ·obtain rfl := Option.some.inj H
      try go_wp2
      have _ := ra (below_drew1 HB.out)
      clear HB
      rename_i HB
      have Z18 : 0 ≤ (Z9 : Int) := od
      have Z19 : Z9 < (l0.length : Int) := od
      obtain ⟨Z20, Z21, Z22, Z23, Z24, Z25, Z26, Z27⟩ := at_T80 Z1.out Z9 Z18 Z19
      have Z28 := Z27
      have Z29 := Z26
      have Z30 := Z25
      have Z31 := Z24
      have Z32 := Z23
      have Z33 := Z22
      cases Z21
      replace Z22 := hc HB Z22
      replace Z23 := hc HB Z23
      replace Z24 := hc HB Z24
      replace Z25 := hc HB Z25
      replace Z26 := hc HB Z26
      replace Z27 := hc HB Z27
      replace Z18 := eq_true Z18
      replace Z19 := eq_true Z19
      have Z34 : 0 ≤ (Z9 : Int) := od
      have Z35 : Z9 < (l1.length : Int) := od
      obtain ⟨Z36, Z37, Z38, Z39, Z40, Z41, Z42, Z43⟩ := at_T80 Z3.out Z9 Z34 Z35
      have Z44 := Z43
      have Z45 := Z42
      have Z46 := Z41
      have Z47 := Z40
      have Z48 := Z39
      have Z49 := Z38
      cases Z37
      replace Z38 := hc HB Z38
      replace Z39 := hc HB Z39
      replace Z40 := hc HB Z40
      replace Z41 := hc HB Z41
      replace Z42 := hc HB Z42
      replace Z43 := hc HB Z43
      replace Z34 := eq_true Z34
      replace Z35 := eq_true Z35
      refine start_ (n := 10) (S := fun w' => w'.cell? (Z20.add ((Z9).toNat * 6)) = some (.int .i64 ((rd_T80 l0 Z9).f0)) ∧ w'.cell? ⟨(Z20.add ((Z9).toNat * 6)).block, (Z20.add ((Z9).toNat * 6)).off + 1, none⟩ = some (.int .i64 ((rd_T80 l0 Z9).f1)) ∧ w'.cell? ⟨(Z20.add ((Z9).toNat * 6)).block, (Z20.add ((Z9).toNat * 6)).off + 2, none⟩ = some (.int .i64 ((rd_T80 l0 Z9).f2)) ∧ w'.cell? ⟨(Z20.add ((Z9).toNat * 6)).block, (Z20.add ((Z9).toNat * 6)).off + 3, none⟩ = some (.int .i64 ((rd_T80 l0 Z9).f3)) ∧ w'.cell? ⟨(Z20.add ((Z9).toNat * 6)).block, (Z20.add ((Z9).toNat * 6)).off + 4, none⟩ = some (.string ((rd_T80 l0 Z9).f4)) ∧ w'.cell? ⟨(Z20.add ((Z9).toNat * 6)).block, (Z20.add ((Z9).toNat * 6)).off + 5, none⟩ = some (.int .i64 ((rd_T80 l0 Z9).f5)) ∧ w'.cell? (Z36.add ((Z9).toNat * 6)) = some (.int .i64 ((rd_T80 l1 Z9).f0)) ∧ w'.cell? ⟨(Z36.add ((Z9).toNat * 6)).block, (Z36.add ((Z9).toNat * 6)).off + 1, none⟩ = some (.int .i64 ((rd_T80 l1 Z9).f1)) ∧ w'.cell? ⟨(Z36.add ((Z9).toNat * 6)).block, (Z36.add ((Z9).toNat * 6)).off + 2, none⟩ = some (.int .i64 ((rd_T80 l1 Z9).f2)) ∧ w'.cell? ⟨(Z36.add ((Z9).toNat * 6)).block, (Z36.add ((Z9).toNat * 6)).off + 3, none⟩ = some (.int .i64 ((rd_T80 l1 Z9).f3)) ∧ w'.cell? ⟨(Z36.add ((Z9).toNat * 6)).block, (Z36.add ((Z9).toNat * 6)).off + 4, none⟩ = some (.string ((rd_T80 l1 Z9).f4)) ∧ w'.cell? ⟨(Z36.add ((Z9).toNat * 6)).block, (Z36.add ((Z9).toNat * 6)).off + 5, none⟩ = some (.int .i64 ((rd_T80 l1 Z9).f5))) (ds := []) (bl 10 0) (by kernel_rfl) rfl rfl ⟨(hc HB Z33), (hc HB Z32), (hc HB Z31), (hc HB Z30), (hc HB Z29), (hc HB Z28), (hc HB Z49), (hc HB Z48), (hc HB Z47), (hc HB Z46), (hc HB Z45), (hc HB Z44)⟩ (fun hHeld => ?_); refine with_tabW laws_eqProbeSlotS.tab6 laws_eqProbeSlotS.bits6 (fun HT_ HW_ => ?_)
      generalize wr.drew = Z50 at HB Z22 Z23 Z24 Z25 Z26 Z27 Z38 Z39 Z40 Z41 Z42 Z43 hHeld ⊢
      refine pu 0 17 (bl 10 1) ?_
      refine pu 1 18 (bl 10 3) ?_
      refine pu 2 19 (bl 10 7) ?_
      refine pu 4 21 (bl 10 23) ?_
      refine pu 5 22 (bl 10 55) ?_
      refine pu 6 23 (bl 10 119) ?_
      refine tk 3 20 (bl 10 127) ?_ hHeld
      refine tk 7 24 (bl 10 255) ?_ hHeld
      refine oe 8 25 (bl 10 511) (fun K hK => ?_)
      refine gs Tryz.func142 #[.agg #[.int .i64 ((rd_T80 l0 Z9).f0), .int .i64 ((rd_T80 l0 Z9).f1), .int .i64 ((rd_T80 l0 Z9).f2), .int .i64 ((rd_T80 l0 Z9).f3), .string ((rd_T80 l0 Z9).f4), .int .i64 ((rd_T80 l0 Z9).f5)], .agg #[.int .i64 ((rd_T80 l1 Z9).f0), .int .i64 ((rd_T80 l1 Z9).f1), .int .i64 ((rd_T80 l1 Z9).f2), .int .i64 ((rd_T80 l1 Z9).f3), .string ((rd_T80 l1 Z9).f4), .int .i64 ((rd_T80 l1 Z9).f5)]] ?_
      with_reducible refine (laws_eqProbeSlot.calls ((rd_T80 l0 Z9).f0) ((rd_T80 l0 Z9).f1) ((rd_T80 l0 Z9).f2) ((rd_T80 l0 Z9).f3) ((rd_T80 l0 Z9).f4) ((rd_T80 l0 Z9).f5) ((rd_T80 l1 Z9).f0) ((rd_T80 l1 Z9).f1) ((rd_T80 l1 Z9).f2) ((rd_T80 l1 Z9).f3) ((rd_T80 l1 Z9).f4) ((rd_T80 l1 Z9).f5) false _ Z16.out).mono ?_
      rintro e Z51 ⟨rfl, hb⟩
      refine ⟨_, rfl, ?_⟩
      have _ := bs hb
      clear HB
      rename_i HB
      (try clear hb)
      refine hK.out _ _ ⟨(hc HB Z33), (hc HB Z32), (hc HB Z31), (hc HB Z30), (hc HB Z29), (hc HB Z28), (hc HB Z49), (hc HB Z48), (hc HB Z47), (hc HB Z46), (hc HB Z45), (hc HB Z44)⟩ (fun hHeld => ?_)
      clear hK K
      refine nm 25 ?_
      refine pu 9 26 (bl 10 1023) ?_
      refine done_ (done_of HT_.out (by kernel_rfl)) ?_
      try go_wp2
      go_ret
      exact ⟨re, bq⟩
    ·obtain rfl := Option.some.inj H
     go_wp2
     go_ret
     exact ⟨re, bq⟩
 ·have Z8 : (l0.length == l1.length) = false := by first | simpa using Z5 | (simp at Z5 ⊢; omega)
  obtain rfl := Option.some.inj H
  go_enter Tryz.func120, Tryz.ntmps120
  go_wp2
  go_ret
  exact ⟨re, bq⟩
theorem laws_eqProbeCell.calls (k : Nat) (a0_0 a0_1 : Int) (A0_2 : Option Addr) (c0_2 : Nat) (l0_2 : List (S80)) (a1_0 a1_1 : Int) (A1_2 : Option Addr) (c1_2 : Nat) (l1_2 : List (S80)) (r : Bool) (w : World) (hr0_2 : Kd.C k80 w A0_2 l0_2.length l0_2) (hc0_2 : l0_2.length ≤ c0_2) (hr1_2 : Kd.C k80 w A1_2 l1_2.length l1_2) (hc1_2 : l1_2.length ≤ c1_2) (h : laws_eqProbeCell.f k a0_0 a0_1 l0_2 a1_0 a1_1 l1_2 = some r) :
  Calls Tryz.prog 87 #[.agg #[.int .i64 a0_0, .int .i64 a0_1, .slice A0_2 l0_2.length c0_2], .agg #[.int .i64 a1_0, .int .i64 a1_1, .slice A1_2 l1_2.length c1_2]] w fun e w' => e = .returned (.bool r) ∧ Below w.heap.size w w' := by
 have Z0 := Tryz.underlying84
 have Z1 := ra hr0_2
 have Z2 := ra hc0_2
 clear hr0_2 hc0_2
 have Z3 := ra hr1_2
 have Z4 := ra hc1_2
 clear hr1_2 hc1_2
 have HB := ra (Below.refl w.heap.size w)
 have H := h; unfold laws_eqProbeCell.f at H
 clear h
 rcases ed H with ⟨-, Z5, Z6, H⟩ | ⟨Z7, Z5, Z6, H⟩
 rcases ed H with ⟨-, Z8, Z9, H⟩ | ⟨Z10, Z8, Z9, H⟩
 obtain ⟨Z11, Z12, H⟩ := bo H
 rcases ud H with ⟨rfl, Z13⟩ | ⟨rfl, Z13⟩ <;> have H := Z13
 rotate_left
 rotate_left
 rotate_left
 rotate_left
 all_goals first
  | obtain rfl := Option.some.inj H
    go_enter Tryz.func87, Tryz.ntmps87
    go_wp2_with (first | ((with_reducible refine gd 2 rfl ?_); refine bd 2 #[.int .i64 a0_0, .int .i64 a0_1, .slice A0_2 l0_2.length c0_2] 84 ?_; intro Z14 Z15 HB Z16 Z17) | ((with_reducible refine gd 3 rfl ?_); refine bf 3 #[.int .i64 a1_0, .int .i64 a1_1, .slice A1_2 l1_2.length c1_2] 84 ?_; intro Z18 Z19 hg hb HB Z20 Z21; have Z22 := bn hg (bk Z16); have Z23 := bm hg (bk Z16); replace Z16 := bb (bk Z16) hb; have Z24 := Z22.out; have Z25 := Z23.out; have Z26 : Z19.cell? ⟨Z14, 0, none⟩ = some (.int .i64 a0_0) := (blk_cell Z16.out 0).trans rfl; have Z27 : Z19.cell? ⟨Z14, 1, none⟩ = some (.int .i64 a0_1) := (blk_cell Z16.out 1).trans rfl; have Z28 : Z19.cell? ⟨Z14, 2, none⟩ = some (.slice A0_2 l0_2.length c0_2) := (blk_cell Z16.out 2).trans rfl; have Z29 := blk_frozen Z16.out 0; have Z30 := blk_frozen Z16.out 1; have Z31 := blk_frozen Z16.out 2; have Z32 : Z19.cell? ⟨Z18, 0, none⟩ = some (.int .i64 a1_0) := (blk_cell Z20.out 0).trans rfl; have Z33 : Z19.cell? ⟨Z18, 1, none⟩ = some (.int .i64 a1_1) := (blk_cell Z20.out 1).trans rfl; have Z34 : Z19.cell? ⟨Z18, 2, none⟩ = some (.slice A1_2 l1_2.length c1_2) := (blk_cell Z20.out 2).trans rfl; have Z35 := blk_frozen Z20.out 0; have Z36 := blk_frozen Z20.out 1; have Z37 := blk_frozen Z20.out 2; clear hg hb) | ((with_reducible refine gc 120 rfl ?_); refine gy (some 19) Tryz.func120 (laws_eqProbeSlotS.calls _ _ _ _ _ _ _ _ _ (sc Z1) Z2.out (sc Z3) Z4.out Z12.out) ?_; rintro Z38 hb; replace Z16 := bb (bk Z16) hb; replace Z20 := bb (bk Z20) hb; replace HB := bs hb; clear hb))
    go_ret
    exact ⟨re, bq⟩
  | obtain rfl := Option.some.inj H
    go_enter Tryz.func87, Tryz.ntmps87
    go_wp2_with (first | ((with_reducible refine gd 2 rfl ?_); refine bd 2 #[.int .i64 a0_0, .int .i64 a0_1, .slice A0_2 l0_2.length c0_2] 84 ?_; intro Z11 Z12 HB Z13 Z14) | ((with_reducible refine gd 3 rfl ?_); refine bf 3 #[.int .i64 a1_0, .int .i64 a1_1, .slice A1_2 l1_2.length c1_2] 84 ?_; intro Z15 Z16 hg hb HB Z17 Z18; have Z19 := bn hg (bk Z13); have Z20 := bm hg (bk Z13); replace Z13 := bb (bk Z13) hb; have Z21 := Z19.out; have Z22 := Z20.out; have Z23 : Z16.cell? ⟨Z11, 0, none⟩ = some (.int .i64 a0_0) := (blk_cell Z13.out 0).trans rfl; have Z24 : Z16.cell? ⟨Z11, 1, none⟩ = some (.int .i64 a0_1) := (blk_cell Z13.out 1).trans rfl; have Z25 : Z16.cell? ⟨Z11, 2, none⟩ = some (.slice A0_2 l0_2.length c0_2) := (blk_cell Z13.out 2).trans rfl; have Z26 := blk_frozen Z13.out 0; have Z27 := blk_frozen Z13.out 1; have Z28 := blk_frozen Z13.out 2; have Z29 : Z16.cell? ⟨Z15, 0, none⟩ = some (.int .i64 a1_0) := (blk_cell Z17.out 0).trans rfl; have Z30 : Z16.cell? ⟨Z15, 1, none⟩ = some (.int .i64 a1_1) := (blk_cell Z17.out 1).trans rfl; have Z31 : Z16.cell? ⟨Z15, 2, none⟩ = some (.slice A1_2 l1_2.length c1_2) := (blk_cell Z17.out 2).trans rfl; have Z32 := blk_frozen Z17.out 0; have Z33 := blk_frozen Z17.out 1; have Z34 := blk_frozen Z17.out 2; clear hg hb))
    go_ret
    exact ⟨re, bq⟩
def laws_eqProbeCellS.T6 : Bool × List (List Nat × List Nat) := (true, [([], []), ([], []), ([0, 1], [0, 1]), ([2], [2]), ([], []), ([], []), ([4, 5], [4, 5]), ([6], [6]), ([3, 7], [3, 7]), ([8], [8])])
def laws_eqProbeCellS.B6 : List Nat := [0, 0, 3, 7, 0, 0, 48, 112, 255, 511]
theorem laws_eqProbeCellS.tab6 : rtab .any (opsOf Tryz.f62 6) = laws_eqProbeCellS.T6 := by kernel_rfl
theorem laws_eqProbeCellS.bits6 : waitsOk laws_eqProbeCellS.T6.2 laws_eqProbeCellS.B6 = true := by kernel_rfl
theorem laws_eqProbeCellS.calls (k : Nat) (A0 : Option Addr) (c0 : Nat) (l0 : List (S84)) (A1 : Option Addr) (c1 : Nat) (l1 : List (S84)) (r : Bool) (w : World) (hr0 : Kd.C k84 w A0 l0.length l0) (hc0 : l0.length ≤ c0) (hr1 : Kd.C k84 w A1 l1.length l1) (hc1 : l1.length ≤ c1) (h : laws_eqProbeCellS.f k l0 l1 = some r) :
  Calls Tryz.prog 62 #[.slice A0 l0.length c0, .slice A1 l1.length c1] w fun e w' => e = .returned (.bool r) ∧ Below w.heap.size w w' := by
 have Z0 := Tryz.underlying84
 have Z1 := ra hr0
 have Z2 := ra hc0
 clear hr0 hc0
 have Z3 := ra hr1
 have Z4 := ra hc1
 clear hr1 hc1
 have HB := ra (Below.refl w.heap.size w)
 have H := h; unfold laws_eqProbeCellS.f at H
 clear h
 rcases ed H with ⟨Z5, Z6, Z7, H⟩ | ⟨Z5, Z6, Z7, H⟩
 ·have Z8 : (l0.length == l1.length) = true := by first | simpa using Z5 | (simp at Z5 ⊢; omega)
  clear Z5
  have H' := ra H; clear H
  go_enter Tryz.func62, Tryz.ntmps62
  go_wp2
  go_loopg [5] k (fun kq v5 w' => ∃ (x5_1 : Int), v5 = .int .i64 x5_1 ∧ Aside0 (laws_eqProbeCellS.l0 kq l0 l1 x5_1 = some r) ∧ Aside0 (kq ≤ k) ∧ Aside0 (Below w.heap.size w w'))
  case atStart => exact ⟨_, rs, H', ⟨Nat.le_refl _⟩, ⟨bq⟩⟩
  case round =>
   clear H'
   try clear c1
   try clear Z5
   try clear Z6
   try clear Z7
   try clear Z8
   obtain ⟨Z9, rfl, HA, Z10, HB⟩ := hrel
   cases gk with
   | zero => exact absurd HA.out (by simp [laws_eqProbeCellS.l0])
   | succ Z11 =>
    have H := HA.out
    clear HA
    simp only [laws_eqProbeCellS.l0] at H
    rcases td H with ⟨Z12, H⟩ | ⟨Z12, H⟩
    ·obtain ⟨Z13, H⟩ := tn H
     obtain ⟨Z14, H⟩ := tn H
     obtain ⟨Z15, Z16, H⟩ := bo H
     rcases ud H with ⟨rfl, Z17⟩ | ⟨rfl, Z17⟩ <;> have H := Z17
     ·have H' := ra H; clear H
      try go_wp2
      have _ := ra (below_drew1 HB.out)
      clear HB
      rename_i HB
      have Z18 : 0 ≤ (Z9 : Int) := od
      have Z19 : Z9 < (l0.length : Int) := od
      obtain ⟨Z20, Z21, Z22, Z23, Z24, Z25, Z26, Z27, Z28⟩ := at_T84 Z1.out Z9 Z18 Z19
      have Z29 := Z26
      have Z30 := Z25
      have Z31 := Z24
      cases Z23
      replace Z24 := hc HB Z24
      replace Z25 := hc HB Z25
      replace Z26 := hc HB Z26
      have Z32 := ra Z28
      have Z33 := ra Z27
      clear Z28 Z27
      replace Z18 := eq_true Z18
      replace Z19 := eq_true Z19
      have Z34 : 0 ≤ (Z9 : Int) := od
      have Z35 : Z9 < (l1.length : Int) := od
      obtain ⟨Z36, Z37, Z38, Z39, Z40, Z41, Z42, Z43, Z44⟩ := at_T84 Z3.out Z9 Z34 Z35
      have Z45 := Z42
      have Z46 := Z41
      have Z47 := Z40
      cases Z39
      replace Z40 := hc HB Z40
      replace Z41 := hc HB Z41
      replace Z42 := hc HB Z42
      have Z48 := ra Z44
      have Z49 := ra Z43
      clear Z44 Z43
      replace Z34 := eq_true Z34
      replace Z35 := eq_true Z35
      refine start_ (n := 10) (S := fun w' => w'.cell? (Z20.add ((Z9).toNat * 3)) = some (.int .i64 ((rd_T84 l0 Z9).f0)) ∧ w'.cell? ⟨(Z20.add ((Z9).toNat * 3)).block, (Z20.add ((Z9).toNat * 3)).off + 1, none⟩ = some (.int .i64 ((rd_T84 l0 Z9).f1)) ∧ w'.cell? ⟨(Z20.add ((Z9).toNat * 3)).block, (Z20.add ((Z9).toNat * 3)).off + 2, none⟩ = some (.slice Z21 ((rd_T84 l0 Z9).f2).length Z22) ∧ w'.cell? (Z36.add ((Z9).toNat * 3)) = some (.int .i64 ((rd_T84 l1 Z9).f0)) ∧ w'.cell? ⟨(Z36.add ((Z9).toNat * 3)).block, (Z36.add ((Z9).toNat * 3)).off + 1, none⟩ = some (.int .i64 ((rd_T84 l1 Z9).f1)) ∧ w'.cell? ⟨(Z36.add ((Z9).toNat * 3)).block, (Z36.add ((Z9).toNat * 3)).off + 2, none⟩ = some (.slice Z37 ((rd_T84 l1 Z9).f2).length Z38)) (ds := []) (bl 10 0) (by kernel_rfl) rfl rfl ⟨(hc HB Z31), (hc HB Z30), (hc HB Z29), (hc HB Z47), (hc HB Z46), (hc HB Z45)⟩ (fun hHeld => ?_); refine with_tabW laws_eqProbeCellS.tab6 laws_eqProbeCellS.bits6 (fun HT_ HW_ => ?_)
      generalize wr.drew = Z50 at HB Z32 Z48 Z24 Z25 Z26 Z40 Z41 Z42 hHeld ⊢
      refine pu 0 17 (bl 10 1) ?_
      refine pu 1 18 (bl 10 3) ?_
      refine pu 2 19 (bl 10 7) ?_
      refine pu 4 21 (bl 10 23) ?_
      refine pu 5 22 (bl 10 55) ?_
      refine pu 6 23 (bl 10 119) ?_
      refine tk 3 20 (bl 10 127) ?_ hHeld
      refine tk 7 24 (bl 10 255) ?_ hHeld
      refine oe 8 25 (bl 10 511) (fun K hK => ?_)
      refine gs Tryz.func87 #[.agg #[.int .i64 ((rd_T84 l0 Z9).f0), .int .i64 ((rd_T84 l0 Z9).f1), .slice Z21 ((rd_T84 l0 Z9).f2).length Z22], .agg #[.int .i64 ((rd_T84 l1 Z9).f0), .int .i64 ((rd_T84 l1 Z9).f1), .slice Z37 ((rd_T84 l1 Z9).f2).length Z38]] ?_
      with_reducible refine (laws_eqProbeCell.calls Z11 ((rd_T84 l0 Z9).f0) ((rd_T84 l0 Z9).f1) _ _ ((rd_T84 l0 Z9).f2) ((rd_T84 l1 Z9).f0) ((rd_T84 l1 Z9).f1) _ _ ((rd_T84 l1 Z9).f2) true _ ?side1 ?side2 ?side3 ?side4 Z16.out).mono ?_
      (case side1 => exact sc Z32)
      (case side2 => exact Z33.out)
      (case side3 => exact sc Z48)
      (case side4 => exact Z49.out)
      rintro e Z51 ⟨rfl, hb⟩
      refine ⟨_, rfl, ?_⟩
      have _ := bs hb
      clear HB
      rename_i HB
      (try clear hb)
      refine hK.out _ _ ⟨(hc HB Z31), (hc HB Z30), (hc HB Z29), (hc HB Z47), (hc HB Z46), (hc HB Z45)⟩ (fun hHeld => ?_)
      clear hK K
      refine nm 25 ?_
      refine pu 9 26 (bl 10 1023) ?_
      refine done_ (done_of HT_.out (by kernel_rfl)) ?_
      try go_wp2
      go_roundg Z11
      case measure => have := Z10.out; omega
      case rel => exact ⟨_, rs, H', ⟨by have := Z10.out; omega⟩, ⟨bq⟩⟩
     ·obtain rfl := Option.some.inj H
      try go_wp2
      have _ := ra (below_drew1 HB.out)
      clear HB
      rename_i HB
      have Z18 : 0 ≤ (Z9 : Int) := od
      have Z19 : Z9 < (l0.length : Int) := od
      obtain ⟨Z20, Z21, Z22, Z23, Z24, Z25, Z26, Z27, Z28⟩ := at_T84 Z1.out Z9 Z18 Z19
      have Z29 := Z26
      have Z30 := Z25
      have Z31 := Z24
      cases Z23
      replace Z24 := hc HB Z24
      replace Z25 := hc HB Z25
      replace Z26 := hc HB Z26
      have Z32 := ra Z28
      have Z33 := ra Z27
      clear Z28 Z27
      replace Z18 := eq_true Z18
      replace Z19 := eq_true Z19
      have Z34 : 0 ≤ (Z9 : Int) := od
      have Z35 : Z9 < (l1.length : Int) := od
      obtain ⟨Z36, Z37, Z38, Z39, Z40, Z41, Z42, Z43, Z44⟩ := at_T84 Z3.out Z9 Z34 Z35
      have Z45 := Z42
      have Z46 := Z41
      have Z47 := Z40
      cases Z39
      replace Z40 := hc HB Z40
      replace Z41 := hc HB Z41
      replace Z42 := hc HB Z42
      have Z48 := ra Z44
      have Z49 := ra Z43
      clear Z44 Z43
      replace Z34 := eq_true Z34
      replace Z35 := eq_true Z35
      refine start_ (n := 10) (S := fun w' => w'.cell? (Z20.add ((Z9).toNat * 3)) = some (.int .i64 ((rd_T84 l0 Z9).f0)) ∧ w'.cell? ⟨(Z20.add ((Z9).toNat * 3)).block, (Z20.add ((Z9).toNat * 3)).off + 1, none⟩ = some (.int .i64 ((rd_T84 l0 Z9).f1)) ∧ w'.cell? ⟨(Z20.add ((Z9).toNat * 3)).block, (Z20.add ((Z9).toNat * 3)).off + 2, none⟩ = some (.slice Z21 ((rd_T84 l0 Z9).f2).length Z22) ∧ w'.cell? (Z36.add ((Z9).toNat * 3)) = some (.int .i64 ((rd_T84 l1 Z9).f0)) ∧ w'.cell? ⟨(Z36.add ((Z9).toNat * 3)).block, (Z36.add ((Z9).toNat * 3)).off + 1, none⟩ = some (.int .i64 ((rd_T84 l1 Z9).f1)) ∧ w'.cell? ⟨(Z36.add ((Z9).toNat * 3)).block, (Z36.add ((Z9).toNat * 3)).off + 2, none⟩ = some (.slice Z37 ((rd_T84 l1 Z9).f2).length Z38)) (ds := []) (bl 10 0) (by kernel_rfl) rfl rfl ⟨(hc HB Z31), (hc HB Z30), (hc HB Z29), (hc HB Z47), (hc HB Z46), (hc HB Z45)⟩ (fun hHeld => ?_); refine with_tabW laws_eqProbeCellS.tab6 laws_eqProbeCellS.bits6 (fun HT_ HW_ => ?_)
      generalize wr.drew = Z50 at HB Z32 Z48 Z24 Z25 Z26 Z40 Z41 Z42 hHeld ⊢
      refine pu 0 17 (bl 10 1) ?_
      refine pu 1 18 (bl 10 3) ?_
      refine pu 2 19 (bl 10 7) ?_
      refine pu 4 21 (bl 10 23) ?_
      refine pu 5 22 (bl 10 55) ?_
      refine pu 6 23 (bl 10 119) ?_
      refine tk 3 20 (bl 10 127) ?_ hHeld
      refine tk 7 24 (bl 10 255) ?_ hHeld
      refine oe 8 25 (bl 10 511) (fun K hK => ?_)
      refine gs Tryz.func87 #[.agg #[.int .i64 ((rd_T84 l0 Z9).f0), .int .i64 ((rd_T84 l0 Z9).f1), .slice Z21 ((rd_T84 l0 Z9).f2).length Z22], .agg #[.int .i64 ((rd_T84 l1 Z9).f0), .int .i64 ((rd_T84 l1 Z9).f1), .slice Z37 ((rd_T84 l1 Z9).f2).length Z38]] ?_
      with_reducible refine (laws_eqProbeCell.calls Z11 ((rd_T84 l0 Z9).f0) ((rd_T84 l0 Z9).f1) _ _ ((rd_T84 l0 Z9).f2) ((rd_T84 l1 Z9).f0) ((rd_T84 l1 Z9).f1) _ _ ((rd_T84 l1 Z9).f2) false _ ?side1 ?side2 ?side3 ?side4 Z16.out).mono ?_
      (case side1 => exact sc Z32)
      (case side2 => exact Z33.out)
      (case side3 => exact sc Z48)
      (case side4 => exact Z49.out)
      rintro e Z51 ⟨rfl, hb⟩
      refine ⟨_, rfl, ?_⟩
      have _ := bs hb
      clear HB
      rename_i HB
      (try clear hb)
      refine hK.out _ _ ⟨(hc HB Z31), (hc HB Z30), (hc HB Z29), (hc HB Z47), (hc HB Z46), (hc HB Z45)⟩ (fun hHeld => ?_)
      clear hK K
      refine nm 25 ?_
      refine pu 9 26 (bl 10 1023) ?_
      refine done_ (done_of HT_.out (by kernel_rfl)) ?_
      try go_wp2
      go_ret
      exact ⟨re, bq⟩
    ·obtain rfl := Option.some.inj H
     go_wp2
     go_ret
     exact ⟨re, bq⟩
 ·have Z8 : (l0.length == l1.length) = false := by first | simpa using Z5 | (simp at Z5 ⊢; omega)
  obtain rfl := Option.some.inj H
  go_enter Tryz.func62, Tryz.ntmps62
  go_wp2
  go_ret
  exact ⟨re, bq⟩
theorem laws_eqProbeIndex.calls (k : Nat) (A0_0 : Option Addr) (c0_0 : Nat) (l0_0 : List (S84)) (A1_0 : Option Addr) (c1_0 : Nat) (l1_0 : List (S84)) (r : Bool) (w : World) (hr0_0 : Kd.C k84 w A0_0 l0_0.length l0_0) (hc0_0 : l0_0.length ≤ c0_0) (hr1_0 : Kd.C k84 w A1_0 l1_0.length l1_0) (hc1_0 : l1_0.length ≤ c1_0) (h : laws_eqProbeIndex.f k l0_0 l1_0 = some r) :
  Calls Tryz.prog 27 #[.agg #[.slice A0_0 l0_0.length c0_0], .agg #[.slice A1_0 l1_0.length c1_0]] w fun e w' => e = .returned (.bool r) ∧ Below w.heap.size w w' := by
 have Z0 := Tryz.underlying28
 have Z1 := ra hr0_0
 have Z2 := ra hc0_0
 clear hr0_0 hc0_0
 have Z3 := ra hr1_0
 have Z4 := ra hc1_0
 clear hr1_0 hc1_0
 have HB := ra (Below.refl w.heap.size w)
 have H := h; unfold laws_eqProbeIndex.f at H
 clear h
 obtain ⟨Z5, Z6, H⟩ := bo H
 rcases ud H with ⟨rfl, Z7⟩ | ⟨rfl, Z7⟩ <;> have H := Z7
 rotate_left
 rotate_left
 all_goals
  obtain rfl := Option.some.inj H
  go_enter Tryz.func27, Tryz.ntmps27
  go_wp2_with (first | ((with_reducible refine gd 2 rfl ?_); refine bd 2 #[.slice A0_0 l0_0.length c0_0] 28 ?_; intro Z8 Z9 HB Z10 Z11) | ((with_reducible refine gd 3 rfl ?_); refine bf 3 #[.slice A1_0 l1_0.length c1_0] 28 ?_; intro Z12 Z13 hg hb HB Z14 Z15; have Z16 := bn hg (bk Z10); have Z17 := bm hg (bk Z10); replace Z10 := bb (bk Z10) hb; have Z18 := Z16.out; have Z19 := Z17.out; obtain ⟨Z20, Z21⟩ := zc1 Z10; obtain ⟨Z22, Z23⟩ := zc1 Z14; clear hg hb) | ((with_reducible refine gc 62 rfl ?_); refine gy (some 9) Tryz.func62 (laws_eqProbeCellS.calls _ _ _ _ _ _ _ _ _ (sc Z1) Z2.out (sc Z3) Z4.out Z6.out) ?_; rintro Z24 hb; replace Z10 := bb (bk Z10) hb; replace Z14 := bb (bk Z14) hb; replace HB := bs hb; clear hb))
  go_ret
  exact ⟨re, bq⟩
theorem laws_markText.calls (k : Nat) (a0 : Int) (r : ByteArray) (w : World) (h : laws_markText.f k a0 = some r) :
  Calls Tryz.prog 65 #[.int .i64 a0] w fun e w' => e = .returned (.string r) ∧ Below w.heap.size w w' := by
 have HB := ra (Below.refl w.heap.size w)
 have H := h; unfold laws_markText.f at H
 clear h
 rcases td H with ⟨Z0, H⟩ | ⟨Z0, H⟩
 ·obtain rfl := Option.some.inj H
  go_enter Tryz.func65, Tryz.ntmps65
  go_wp2
  go_ret
  exact ⟨re, bq⟩
 ·have H' := ra H; clear H
  go_enter Tryz.func65, Tryz.ntmps65
  go_wp2
  go_loopg [0, 3] k (fun kq v0 v3 w' => ∃ (x0_1 : Int) (x3_1 : ByteArray), v0 = .int .i64 x0_1 ∧ v3 = .string x3_1 ∧ Aside0 (laws_markText.l0 kq x0_1 x3_1 = some r) ∧ Aside0 (kq ≤ k) ∧ Aside0 (Below w.heap.size w w'))
  case atStart => exact ⟨(a0), ((⟨#[]⟩ : ByteArray)), rs, rs, H', ⟨Nat.le_refl _⟩, ⟨bq⟩⟩
  case round =>
   clear H'
   try clear Z0
   obtain ⟨Z1, Z2, rfl, rfl, HA, Z3, HB⟩ := hrel
   cases gk with
   | zero => exact absurd HA.out (by simp [laws_markText.l0])
   | succ Z4 =>
    have H := HA.out
    clear HA
    simp only [laws_markText.l0] at H
    rcases td H with ⟨Z5, H⟩ | ⟨Z5, H⟩
    ·obtain ⟨Z6, hy_⟩ : ∃ y_ : List Int, y_ = (([(wrap64 (48 + (Int.tmod Z1 10))) % 256] : List Int)) := ⟨_, rfl⟩
     replace H : (if (strOfNums Z6).size + Z2.size ≤ 9223372036854775807 then (laws_markText.l0 Z4 (wrap64 (Int.tdiv Z1 10)) ((strOfNums Z6) ++ Z2)) else (none)) = some r := yh
     have Z7 := ra hy_
     clear hy_
     by_cases Z8 : (strOfNums Z6).size + Z2.size ≤ 9223372036854775807
     ·rw [if_pos Z8] at H
      have Z9 := eq_true Z8
      have Z10 : decide ((strOfNums Z6).size + Z2.size ≤ 9223372036854775807) = true := decide_eq_true Z8
      try have Z11 : (9223372036854775807 < (strOfNums Z6).size + Z2.size) = False := eq_false (Nat.not_lt.2 Z8)
      have H' := ra H; clear H
      go_wp2_with (first | ((with_reducible refine gd 12 rfl ?_); refine Kd.R_lit (Kd.int .u8) _ 5 ?hg (N := 12) ?hd (xs := ([(wrap64 (48 + (Int.tmod Z1 10))) % 256] : List Int)) (inner := [.int .u8 ((wrap64 (48 + (Int.tmod Z1 10))) % 256)]) (ok := fun _ => True) (okp := fun _ => True) ?hr ?hp (fun _ hk => hk) trivial (Below.refl _ _) (Nat.le_refl _) (by simp) ?_; (case hd => rfl); (case hg => rfl); (case hr => first | (go_simp; done) | (go_simp; rfl)); (case hp => exact (Reps.one (show Kd.M (Kd.int .u8) _ _ _ ((wrap64 (48 + (Int.tmod Z1 10))) % 256) [.int .u8 ((wrap64 (48 + (Int.tmod Z1 10))) % 256)] from rfl) (Reps.none _ _))); intro Z12 Z13 Z14 hb hg_ hnew_; clear hg_ hnew_; (first | rw [← Z7.out] at Z14 | (simp only [Int.reduceToNat] at Z14; rw [← Z7.out] at Z14)); have Z15 := ra (Kd.R_lower Z14 (below_size bq)); replace HB := bs hb; clear hb Z14; have Z16 := own_string (P := Tryz.prog) Tryz.underlying22 Tryz.underlying5 Tryz.underlying9 (Kd.own_of_R Z15.out)))
      go_roundg Z4
      case measure => have := Z3.out; omega
      case rel => exact ⟨(wrap64 (Int.tdiv Z1 10)), ((strOfNums Z6) ++ Z2), rs, rs, H', ⟨by have := Z3.out; omega⟩, ⟨bq⟩⟩
     ·rw [if_neg Z8] at H
      exact absurd H (by simp)
    ·by_cases Z6 : 1 + Z2.size ≤ 9223372036854775807
     ·rw [if_pos Z6] at H
      have Z7 := eq_true Z6
      have Z8 : decide (1 + Z2.size ≤ 9223372036854775807) = true := decide_eq_true Z6
      try have Z9 : (9223372036854775807 < 1 + Z2.size) = False := eq_false (Nat.not_lt.2 Z6)
      obtain rfl := Option.some.inj H
      go_wp2
      go_ret
      exact ⟨re, bq⟩
     ·rw [if_neg Z6] at H
      exact absurd H (by simp)
theorem laws_markProbeTubeS.calls (k : Nat) (P0_ : Nat → Prop) (u9000_ : Value) (l0 : List (S32)) (a1 r1 : Int) (r2 : List (S32)) (w0 w : World) (hB : Below w0.heap.size w0 w) (ho0 : Kd.S k32 32 w w0.heap.size P0_ u9000_ l0) (h : laws_markProbeTubeS.f k l0 a1 = some (r1, r2)) :
  Calls Tryz.prog 31 #[u9000_, .int .i64 a1] w fun e w' => e = .returned (.int .i64 r1) ∧ Kd.S k32 32 w' w0.heap.size (fun k_ => P0_ k_) u9000_ r2 ∧ Below w0.heap.size w0 w' ∧ Kept w w' (fun k_ => P0_ k_) := by
 have Z0 := ra (show Kd.S k32 32 w w0.heap.size (fun k_ => P0_ k_) u9000_ l0 from ho0)
 have HK := ra (Kept.refl w (fun k_ => P0_ k_))
 have Z1 := Aside0.mk hB.size
 have HB := ra hB; clear hB
 have H := h; unfold laws_markProbeTubeS.f at H
 clear h
 have H' := ra H; clear H
 go_enter Tryz.func31, Tryz.ntmps31
 go_wp2
 go_loopg [1, 5] k (fun kq v1 v5 w' => ∃ (x0_1 : List (S32)) (x1_1 : Int) (x5_1 : Int), v1 = .int .i64 x1_1 ∧ v5 = .int .i64 x5_1 ∧ Aside0 (laws_markProbeTubeS.l0 kq x0_1 x1_1 x5_1 = some (r1, r2)) ∧ Aside0 (kq ≤ k) ∧ Aside0 (Kd.S k32 32 w' w0.heap.size (fun k_ => P0_ k_) u9000_ x0_1) ∧ Aside0 (Kept w w' (fun k_ => P0_ k_)) ∧ Aside0 (Below w0.heap.size w0 w'))
 case atStart => exact ⟨(l0), (a1), (0), rs, rs, H', ⟨Nat.le_refl _⟩, ⟨by (with_reducible repeat (first | apply Kd.S_alloc | apply Kd.S_drewN | apply Kd.S_drew)); exact Z0.out⟩, ⟨by repeat (first | (with_reducible first | exact HK.out | apply Kept.alloc | apply Kept.drewN | apply Kept.drew) | exact HK.out)⟩, ⟨bq⟩⟩
 case round =>
  clear H'
  obtain ⟨Z2, Z3, Z4, rfl, rfl, HA, Z5, Z6, HK, HB⟩ := hrel
  cases gk with
  | zero => exact absurd HA.out (by simp [laws_markProbeTubeS.l0])
  | succ Z7 =>
   have H := HA.out
   clear HA
   simp only [laws_markProbeTubeS.l0] at H
   rcases td H with ⟨Z8, H⟩ | ⟨Z8, H⟩
   ·obtain ⟨Z9, Z10, H⟩ := bo H
    obtain ⟨Z11, H⟩ := tn H
    obtain ⟨Z12, hy_⟩ : ∃ y_ : List (S32), y_ = (Z2.set (Z4 : Int).toNat (⟨Z9, (rd_T32 Z2 Z4).f1⟩ : S32)) := ⟨_, rfl⟩
    replace H : ((laws_markProbeBoxS.f Z7 ((rd_T32 Z12 Z4).f1) (wrap64 (Z3 + 1))).bind fun bt_ => (laws_markProbeTubeS.l0 Z7 (Z12.set (Z4 : Int).toNat (⟨(rd_T32 Z12 Z4).f0, bt_.2⟩ : S32)) bt_.1 (wrap64 (Z4 + 1)))) = some (r1, r2) := yh
    have Z13 := ra hy_
    clear hy_
    obtain ⟨⟨Z14, Z15⟩, Z16, H⟩ := bo H
    try dsimp only at H
    have H' := ra H; clear H
    obtain ⟨Z17, Z18, Z19⟩ := Kd.S_slice Z6.out
    subst Z19
    go_wp2_with (first | ((with_reducible refine gc 65 rfl ?_); refine gy (some 15) Tryz.func65 (laws_markText.calls _ _ _ _ Z10.out) ?_; rintro Z20 hb; replace Z6 := ra (Kd.S_below (by (with_reducible repeat (first | apply Kd.S_alloc | apply Kd.S_drewN | apply Kd.S_drew)); exact Z6.out) hb); replace HK := ra (Kept.below (S := (fun k_ => P0_ k_)) (by repeat (first | (with_reducible first | exact HK.out | apply Kept.alloc | apply Kept.drewN | apply Kept.drew) | exact HK.out)) hb); replace HB := bs hb; clear hb; have Z21 : 0 ≤ (Z4 : Int) := od; have Z22 : (Z4 : Int) < ((Z2.length : Int) : Int) := od; obtain ⟨Z23, Z24, Z25, Z26, Z27, Z28, Z29⟩ := Kd.S_form Z6.out (by omega); (first | cases Z25 | (injection Z25 with ea_ en_ ec_; (first | subst ea_ | (injection ea_ with ea_; subst ea_)); subst ec_; clear en_)); have Z30 := Aside0.mk Z26; have Z31 := Aside0.mk Z29; clear Z26 Z27 Z29; have Z32 := ra (show (P0_ Z23) from ((Kd.S_R Z6.out).1 _ rfl)); obtain ⟨_, Z33, Z34, Z35, Z36, Z37, _, _⟩ := Kd.S_elem Z6.out z32 (Z4 : Int) Z21 Z22; obtain ⟨Z38, rfl, Z39⟩ := k32_openM Z35; have Z40 : Z20.cell? ⟨Z23, (Z4 : Int).toNat * 2, none⟩ = some (.string ((rd_T32 Z2 Z4).f0)) := Z36 0 _ rfl; have Z41 : Z20.cell? ⟨Z23, (Z4 : Int).toNat * 2 + 1, none⟩ = some (Z38) := Z36 1 _ rfl; have Z42 : Z20.frozen? ⟨Z23, (Z4 : Int).toNat * 2, none⟩ = false := Z37 0; have Z43 : Z20.frozen? ⟨Z23, (Z4 : Int).toNat * 2 + 1, none⟩ = false := Z37 1; clear Z34 Z36 Z37 Z35; replace Z21 := eq_true Z21; replace Z22 := eq_true Z22; have Z44 := ra (show Kd.S k32 32 Z20 w0.heap.size (fun k_ => ((fun k_ => P0_ k_)) k_ ∧ ¬ ((fun _ => False)) k_) (.slice (some ⟨Z23, 0, none⟩) Z2.length Z18) Z2 from (by (with_reducible repeat (first | apply Kd.S_alloc | apply Kd.S_drewN | apply Kd.S_drew)); exact Kd.S_mono Z6.out (fun k_ hk => ⟨hk, fun e_ => e_⟩))); obtain ⟨Z45, Z46, Z47, Z48, Z49, Z50, Z51, Z52⟩ := Kd.S_elem Z44.out z32 (Z4 : Int) (od) (by have h_ : (Z4 : Int) < ((Z2.length : Int) : Int) := od; first | exact h_ | (have e_ := (Kd.S_reads' Z6.out).1; omega) | simpa using h_); obtain ⟨Z53, rfl, Z54⟩ := k32_openM Z48; have Z55 := Kd.S_seg Z52 (od) (by have h_ : (Z4 : Int) < ((Z2.length : Int) : Int) := od; first | exact h_ | (have e_ := (Kd.S_reads' Z6.out).1; omega) | simpa using h_) (seg := [.string Z9]) (j := 0) (show 1 ≤ 2 from by decide) (x' := (⟨Z9, (rd_T32 Z2 Z4).f1⟩ : S32)) (k32_mkM _ _ _ (⟨Z9, (rd_T32 Z2 Z4).f1⟩ : S32) (Kd.R_mono Z54 (fun _ h_ => Or.inl h_))) (fun _ hk => hk) (fun k_ hk_ => hk_.elim); have Z56 := Z49 0 _ rfl; (try simp only [show (k32).sz = 2 from rfl, Nat.mul_one, Nat.add_zero] at Z56); have Z57 := Z50 0; (try simp only [show (k32).sz = 2 from rfl, Nat.mul_one, Nat.add_zero] at Z57); clear Z47 Z49 Z50 Z48 Z51 Z52) | ((with_reducible refine gate_store (t := 9) (p := 17) rfl ?_); refine store_event (t := 9) (p := 17) (v := ?vo_w11) (w1 := (Z20.setCell ⟨Z23, (Z4 : Int).toNat * 2, none⟩ (.string Z9))) ?hg ?ho ?hn ?hr ?_; (case ho => rfl); (case hg => rfl); (case hn => rfl); (case hr => first | (go_simp; done) | (go_simp; rfl)); intro Z58 hw; have hg : Z20.grownBy Z58 (some Z23) := (by rw [hw]; exact Z55.2); have hp_ : Kd.S k32 32 Z58 w0.heap.size (fun k_ => P0_ k_) (.slice (some ⟨Z23, 0, none⟩) Z2.length Z18) Z12 := (by rw [hw, Z13.out]; exact Z55.1); clear Z55; replace HB := ra ((by rw [hw]; exact below_set (HB.out) Z30.out : Below w0.heap.size w0 Z58)); replace HK := ra (Kept.of_grown (S := (fun k_ => P0_ k_)) hg (by repeat (first | (with_reducible first | exact HK.out | apply Kept.alloc | apply Kept.drewN | apply Kept.drew) | exact HK.out)) (fun k_ e_ => .inl ((Kd.S_R Z6.out).1 k_ e_))); replace Z6 := ra (hp_); clear hg hw hp_; have Z59 : 0 ≤ (Z4 : Int) := od; have Z60 : Z4 < (Z12.length : Int) := (by have h_ : (Z4 : Int) < ((Z2.length : Int) : Int) := od; first | (have e_ := (Kd.S_reads' Z6.out).1; omega) | simpa only [Z13.out, List.length_set] using h_); have Z61 : ((Z4 : Int) < ((Z2.length : Int) : Int)) = True := eq_true (od); obtain ⟨Z62, Z63, Z64, Z65, Z66, Z67, Z68, Z69⟩ := at_T32 (Kd.S_reads' Z6.out).2.2 Z4 Z59 Z60; obtain rfl : (⟨Z23, 0, none⟩ : Addr) = Z62 := (by injection Z65); (first | simp only [add_plain] at Z66 | simp only [add_at] at Z66 | simp only [Addr.add, Nat.zero_add] at Z66 | skip); (first | simp only [add_plain] at Z67 | simp only [add_at] at Z67 | simp only [Addr.add, Nat.zero_add] at Z67 | skip); obtain ⟨okX, ceX, hclX, hMX, hccX, hfrX, hokX, hHX⟩ := Kd.S_elem Z6.out z32 Z4 Z59 (by first | exact Z60 | exact od | (have e_ := (Kd.S_reads' Z6.out).1; omega)); obtain ⟨veX, rfl, geX⟩ := k32_openM hMX; have hvX : veX = .slice Z63 ((rd_T32 Z12 Z4).f1).length Z64 := Option.some.inj ((hccX 1 _ rfl).symm.trans Z67); subst hvX; have HGX := ra geX; have HHX := ra hHX; have HOX := ra hokX; clear geX hHX hokX hclX hccX hfrX hMX; replace Z59 := eq_true Z59; replace Z60 := eq_true Z60) | ((with_reducible refine gc 66 rfl ?_); refine gy (some 26) Tryz.func66 (laws_markProbeBoxS.calls _ (fun k_ => some k_ = (.slice Z63 ((rd_T32 Z12 Z4).f1).length Z64 : Value).ownBlock) _ _ _ _ _ _ _ (by repeat (first | (with_reducible first | exact HB.out | apply below_alloc | apply pw_below_drewN | apply below_drew1) | exact HB.out)) (Kd.R_tight rfl HGX.out) Z16.out) ?_; rintro Z70 ⟨Z71, hb, hkp⟩; have _ := ra (Kd.H_back (Kd.H_kept HHX.out hkp (fun k_ hk_ hn_ hs_ => hn_ (HGX.out.1 k_ hs_.symm))) (k32_mkM _ _ _ (⟨(rd_T32 Z12 Z4).f0, Z15⟩ : S32) (Kd.R_reok rfl Z71 (fun k_ e_ => HGX.out.1 k_ e_))) (fun _ h_ => h_)); have _ := ra (Kept.then_ (S := (fun k_ => P0_ k_)) (HK.out) hkp (fun k_ hs_ => .inl (HOX.out k_ (HGX.out.1 k_ hs_.symm)).1)); have _ := ra hb; clear Z6 HK HB HHX HGX HOX Z71 hkp hb; rename_i Z6 HK HB))
    go_roundg Z7
    case measure => have := Z5.out; omega
    case rel => exact ⟨(Z12.set (Z4 : Int).toNat (⟨(rd_T32 Z12 Z4).f0, Z15⟩ : S32)), (Z14), (wrap64 (Z4 + 1)), rs, rs, H', ⟨by have := Z5.out; omega⟩, ⟨by (with_reducible repeat (first | apply Kd.S_alloc | apply Kd.S_drewN | apply Kd.S_drew)); exact Z6.out⟩, ⟨by repeat (first | (with_reducible first | exact HK.out | apply Kept.alloc | apply Kept.drewN | apply Kept.drew) | exact HK.out)⟩, ⟨bq⟩⟩
   ·simp only [Option.some.injEq, Prod.mk.injEq] at H
    obtain ⟨rfl, rfl⟩ := H
    obtain ⟨Z9, Z10, Z11⟩ := Kd.S_slice Z6.out
    subst Z11
    go_wp2
    go_ret
    exact ⟨re, by (with_reducible repeat (first | apply Kd.S_alloc | apply Kd.S_drewN | apply Kd.S_drew)); exact Z6.out, bq, by repeat (first | (with_reducible first | exact HK.out | apply Kept.alloc | apply Kept.drewN | apply Kept.drew) | exact HK.out)⟩
theorem laws_markProbeSlotS.calls (k : Nat) (P0_ : Nat → Prop) (u9000_ : Value) (l0 : List (S80)) (a1 r1 : Int) (r2 : List (S80)) (w0 w : World) (hB : Below w0.heap.size w0 w) (ho0 : Kd.R k80 80 w w0.heap.size P0_ u9000_ l0) (h : laws_markProbeSlotS.f k l0 a1 = some (r1, r2)) :
  Calls Tryz.prog 89 #[u9000_, .int .i64 a1] w fun e w' => e = .returned (.int .i64 r1) ∧ Kd.R k80 80 w' w0.heap.size (fun k_ => (P0_ k_ ∨ w.heap.size ≤ k_)) u9000_ r2 ∧ Below w0.heap.size w0 w' ∧ Kept w w' (fun k_ => P0_ k_) := by
 have Z0 := ra (show Kd.R k80 80 w w0.heap.size (fun k_ => (P0_ k_ ∨ w.heap.size ≤ k_)) u9000_ l0 from Kd.R_mono ho0 (fun k_ hk => (.inl hk)))
 have HK := ra (Kept.refl w (fun k_ => P0_ k_))
 have Z1 := Aside0.mk hB.size
 have HB := ra hB; clear hB
 have H := h; unfold laws_markProbeSlotS.f at H
 clear h
 have H' := ra H; clear H
 go_enter Tryz.func89, Tryz.ntmps89
 go_wp2
 go_loopg [1, 5] k (fun kq v1 v5 w' => ∃ (x0_1 : List (S80)) (x1_1 : Int) (x5_1 : Int), v1 = .int .i64 x1_1 ∧ v5 = .int .i64 x5_1 ∧ Aside0 (laws_markProbeSlotS.l0 kq x0_1 x1_1 x5_1 = some (r1, r2)) ∧ Aside0 (kq ≤ k) ∧ Aside0 (Kd.R k80 80 w' w0.heap.size (fun k_ => (P0_ k_ ∨ w.heap.size ≤ k_)) u9000_ x0_1) ∧ Aside0 (Kept w w' (fun k_ => P0_ k_)) ∧ Aside0 (Below w0.heap.size w0 w'))
 case atStart => exact ⟨(l0), (a1), (0), rs, rs, H', ⟨Nat.le_refl _⟩, ⟨rq Z0⟩, ⟨by repeat (first | (with_reducible first | exact HK.out | apply Kept.alloc | apply Kept.drewN | apply Kept.drew) | exact HK.out)⟩, ⟨bq⟩⟩
 case round =>
  clear H'
  obtain ⟨Z2, Z3, Z4, rfl, rfl, HA, Z5, Z6, HK, HB⟩ := hrel
  cases gk with
  | zero => exact absurd HA.out (by simp [laws_markProbeSlotS.l0])
  | succ Z7 =>
   have H := HA.out
   clear HA
   simp only [laws_markProbeSlotS.l0] at H
   rcases td H with ⟨Z8, H⟩ | ⟨Z8, H⟩
   ·obtain ⟨Z9, H⟩ := tn H
    obtain ⟨Z10, hy_⟩ : ∃ y_ : List (S80), y_ = (Z2.set (Z4 : Int).toNat (⟨Z3, (rd_T80 Z2 Z4).f1, (rd_T80 Z2 Z4).f2, (rd_T80 Z2 Z4).f3, (rd_T80 Z2 Z4).f4, (rd_T80 Z2 Z4).f5⟩ : S80)) := ⟨_, rfl⟩
    replace H : ((some (Z10.set (Z4 : Int).toNat (⟨(rd_T80 Z10 Z4).f0, wrap64 (Z3 + 1), (rd_T80 Z10 Z4).f2, (rd_T80 Z10 Z4).f3, (rd_T80 Z10 Z4).f4, (rd_T80 Z10 Z4).f5⟩ : S80) : List (S80))).bind fun y1028 => ((some (y1028.set (Z4 : Int).toNat (⟨(rd_T80 y1028 Z4).f0, (rd_T80 y1028 Z4).f1, wrap64 ((wrap64 (Z3 + 1)) + 1), (rd_T80 y1028 Z4).f3, (rd_T80 y1028 Z4).f4, (rd_T80 y1028 Z4).f5⟩ : S80) : List (S80))).bind fun y1029 => ((some (y1029.set (Z4 : Int).toNat (⟨(rd_T80 y1029 Z4).f0, (rd_T80 y1029 Z4).f1, (rd_T80 y1029 Z4).f2, wrap64 ((wrap64 ((wrap64 (Z3 + 1)) + 1)) + 1), (rd_T80 y1029 Z4).f4, (rd_T80 y1029 Z4).f5⟩ : S80) : List (S80))).bind fun y1030 => ((laws_markText.f Z7 (wrap64 ((wrap64 ((wrap64 ((wrap64 (Z3 + 1)) + 1)) + 1)) + 1))).bind fun t1031 => ((some (y1030.set (Z4 : Int).toNat (⟨(rd_T80 y1030 Z4).f0, (rd_T80 y1030 Z4).f1, (rd_T80 y1030 Z4).f2, (rd_T80 y1030 Z4).f3, t1031, (rd_T80 y1030 Z4).f5⟩ : S80) : List (S80))).bind fun y1032 => (laws_markProbeSlotS.l0 Z7 (y1032.set (Z4 : Int).toNat (⟨(rd_T80 y1032 Z4).f0, (rd_T80 y1032 Z4).f1, (rd_T80 y1032 Z4).f2, (rd_T80 y1032 Z4).f3, (rd_T80 y1032 Z4).f4, wrap64 ((wrap64 ((wrap64 ((wrap64 ((wrap64 (Z3 + 1)) + 1)) + 1)) + 1)) + 1)⟩ : S80)) (wrap64 ((wrap64 ((wrap64 ((wrap64 ((wrap64 ((wrap64 (Z3 + 1)) + 1)) + 1)) + 1)) + 1)) + 1)) (wrap64 (Z4 + 1)))))))) = some (r1, r2) := yh
    have Z11 := ra hy_
    clear hy_
    obtain ⟨Z12, hy_⟩ : ∃ y_ : List (S80), y_ = (Z10.set (Z4 : Int).toNat (⟨(rd_T80 Z10 Z4).f0, wrap64 (Z3 + 1), (rd_T80 Z10 Z4).f2, (rd_T80 Z10 Z4).f3, (rd_T80 Z10 Z4).f4, (rd_T80 Z10 Z4).f5⟩ : S80)) := ⟨_, rfl⟩
    replace H : ((some (Z12.set (Z4 : Int).toNat (⟨(rd_T80 Z12 Z4).f0, (rd_T80 Z12 Z4).f1, wrap64 ((wrap64 (Z3 + 1)) + 1), (rd_T80 Z12 Z4).f3, (rd_T80 Z12 Z4).f4, (rd_T80 Z12 Z4).f5⟩ : S80) : List (S80))).bind fun y1029 => ((some (y1029.set (Z4 : Int).toNat (⟨(rd_T80 y1029 Z4).f0, (rd_T80 y1029 Z4).f1, (rd_T80 y1029 Z4).f2, wrap64 ((wrap64 ((wrap64 (Z3 + 1)) + 1)) + 1), (rd_T80 y1029 Z4).f4, (rd_T80 y1029 Z4).f5⟩ : S80) : List (S80))).bind fun y1030 => ((laws_markText.f Z7 (wrap64 ((wrap64 ((wrap64 ((wrap64 (Z3 + 1)) + 1)) + 1)) + 1))).bind fun t1031 => ((some (y1030.set (Z4 : Int).toNat (⟨(rd_T80 y1030 Z4).f0, (rd_T80 y1030 Z4).f1, (rd_T80 y1030 Z4).f2, (rd_T80 y1030 Z4).f3, t1031, (rd_T80 y1030 Z4).f5⟩ : S80) : List (S80))).bind fun y1032 => (laws_markProbeSlotS.l0 Z7 (y1032.set (Z4 : Int).toNat (⟨(rd_T80 y1032 Z4).f0, (rd_T80 y1032 Z4).f1, (rd_T80 y1032 Z4).f2, (rd_T80 y1032 Z4).f3, (rd_T80 y1032 Z4).f4, wrap64 ((wrap64 ((wrap64 ((wrap64 ((wrap64 (Z3 + 1)) + 1)) + 1)) + 1)) + 1)⟩ : S80)) (wrap64 ((wrap64 ((wrap64 ((wrap64 ((wrap64 ((wrap64 (Z3 + 1)) + 1)) + 1)) + 1)) + 1)) + 1)) (wrap64 (Z4 + 1))))))) = some (r1, r2) := yh
    have Z13 := ra hy_
    clear hy_
    obtain ⟨Z14, hy_⟩ : ∃ y_ : List (S80), y_ = (Z12.set (Z4 : Int).toNat (⟨(rd_T80 Z12 Z4).f0, (rd_T80 Z12 Z4).f1, wrap64 ((wrap64 (Z3 + 1)) + 1), (rd_T80 Z12 Z4).f3, (rd_T80 Z12 Z4).f4, (rd_T80 Z12 Z4).f5⟩ : S80)) := ⟨_, rfl⟩
    replace H : ((some (Z14.set (Z4 : Int).toNat (⟨(rd_T80 Z14 Z4).f0, (rd_T80 Z14 Z4).f1, (rd_T80 Z14 Z4).f2, wrap64 ((wrap64 ((wrap64 (Z3 + 1)) + 1)) + 1), (rd_T80 Z14 Z4).f4, (rd_T80 Z14 Z4).f5⟩ : S80) : List (S80))).bind fun y1030 => ((laws_markText.f Z7 (wrap64 ((wrap64 ((wrap64 ((wrap64 (Z3 + 1)) + 1)) + 1)) + 1))).bind fun t1031 => ((some (y1030.set (Z4 : Int).toNat (⟨(rd_T80 y1030 Z4).f0, (rd_T80 y1030 Z4).f1, (rd_T80 y1030 Z4).f2, (rd_T80 y1030 Z4).f3, t1031, (rd_T80 y1030 Z4).f5⟩ : S80) : List (S80))).bind fun y1032 => (laws_markProbeSlotS.l0 Z7 (y1032.set (Z4 : Int).toNat (⟨(rd_T80 y1032 Z4).f0, (rd_T80 y1032 Z4).f1, (rd_T80 y1032 Z4).f2, (rd_T80 y1032 Z4).f3, (rd_T80 y1032 Z4).f4, wrap64 ((wrap64 ((wrap64 ((wrap64 ((wrap64 (Z3 + 1)) + 1)) + 1)) + 1)) + 1)⟩ : S80)) (wrap64 ((wrap64 ((wrap64 ((wrap64 ((wrap64 ((wrap64 (Z3 + 1)) + 1)) + 1)) + 1)) + 1)) + 1)) (wrap64 (Z4 + 1)))))) = some (r1, r2) := yh
    have Z15 := ra hy_
    clear hy_
    obtain ⟨Z16, hy_⟩ : ∃ y_ : List (S80), y_ = (Z14.set (Z4 : Int).toNat (⟨(rd_T80 Z14 Z4).f0, (rd_T80 Z14 Z4).f1, (rd_T80 Z14 Z4).f2, wrap64 ((wrap64 ((wrap64 (Z3 + 1)) + 1)) + 1), (rd_T80 Z14 Z4).f4, (rd_T80 Z14 Z4).f5⟩ : S80)) := ⟨_, rfl⟩
    replace H : ((laws_markText.f Z7 (wrap64 ((wrap64 ((wrap64 ((wrap64 (Z3 + 1)) + 1)) + 1)) + 1))).bind fun t1031 => ((some (Z16.set (Z4 : Int).toNat (⟨(rd_T80 Z16 Z4).f0, (rd_T80 Z16 Z4).f1, (rd_T80 Z16 Z4).f2, (rd_T80 Z16 Z4).f3, t1031, (rd_T80 Z16 Z4).f5⟩ : S80) : List (S80))).bind fun y1032 => (laws_markProbeSlotS.l0 Z7 (y1032.set (Z4 : Int).toNat (⟨(rd_T80 y1032 Z4).f0, (rd_T80 y1032 Z4).f1, (rd_T80 y1032 Z4).f2, (rd_T80 y1032 Z4).f3, (rd_T80 y1032 Z4).f4, wrap64 ((wrap64 ((wrap64 ((wrap64 ((wrap64 (Z3 + 1)) + 1)) + 1)) + 1)) + 1)⟩ : S80)) (wrap64 ((wrap64 ((wrap64 ((wrap64 ((wrap64 ((wrap64 (Z3 + 1)) + 1)) + 1)) + 1)) + 1)) + 1)) (wrap64 (Z4 + 1))))) = some (r1, r2) := yh
    have Z17 := ra hy_
    clear hy_
    obtain ⟨Z18, Z19, H⟩ := bo H
    obtain ⟨Z20, hy_⟩ : ∃ y_ : List (S80), y_ = (Z16.set (Z4 : Int).toNat (⟨(rd_T80 Z16 Z4).f0, (rd_T80 Z16 Z4).f1, (rd_T80 Z16 Z4).f2, (rd_T80 Z16 Z4).f3, Z18, (rd_T80 Z16 Z4).f5⟩ : S80)) := ⟨_, rfl⟩
    replace H : (laws_markProbeSlotS.l0 Z7 (Z20.set (Z4 : Int).toNat (⟨(rd_T80 Z20 Z4).f0, (rd_T80 Z20 Z4).f1, (rd_T80 Z20 Z4).f2, (rd_T80 Z20 Z4).f3, (rd_T80 Z20 Z4).f4, wrap64 ((wrap64 ((wrap64 ((wrap64 ((wrap64 (Z3 + 1)) + 1)) + 1)) + 1)) + 1)⟩ : S80)) (wrap64 ((wrap64 ((wrap64 ((wrap64 ((wrap64 ((wrap64 (Z3 + 1)) + 1)) + 1)) + 1)) + 1)) + 1)) (wrap64 (Z4 + 1))) = some (r1, r2) := yh
    have Z21 := ra hy_
    clear hy_
    obtain ⟨Z22, hy_⟩ : ∃ y_ : List (S80), y_ = (Z20.set (Z4 : Int).toNat (⟨(rd_T80 Z20 Z4).f0, (rd_T80 Z20 Z4).f1, (rd_T80 Z20 Z4).f2, (rd_T80 Z20 Z4).f3, (rd_T80 Z20 Z4).f4, wrap64 ((wrap64 ((wrap64 ((wrap64 ((wrap64 (Z3 + 1)) + 1)) + 1)) + 1)) + 1)⟩ : S80)) := ⟨_, rfl⟩
    replace H : (laws_markProbeSlotS.l0 Z7 Z22 (wrap64 ((wrap64 ((wrap64 ((wrap64 ((wrap64 ((wrap64 (Z3 + 1)) + 1)) + 1)) + 1)) + 1)) + 1)) (wrap64 (Z4 + 1))) = some (r1, r2) := yh
    have Z23 := ra hy_
    clear hy_
    have H' := ra H; clear H
    obtain ⟨Z24, Z25, Z26⟩ := Kd.R_slice Z6.out
    subst Z26
    have Z27 : 0 ≤ (Z4 : Int) := od
    have Z28 : (Z4 : Int) < ((Z2.length : Int) : Int) := od
    obtain ⟨Z29, Z30, Z31, Z32, Z33, Z34, Z35⟩ := Kd.R_form Z6.out (by omega)
    (first | cases Z31 | (injection Z31 with ea_ en_ ec_; (first | subst ea_ | (injection ea_ with ea_; subst ea_)); subst ec_; clear en_))
    have Z36 := ra Z32
    have Z37 := ra Z35
    clear Z32 Z33 Z35
    have Z38 := ra (show (P0_ Z29 ∨ w.heap.size ≤ Z29) from (Z6.out.1 _ rfl))
    obtain ⟨Z39, Z40, Z41, Z42, Z43⟩ := Kd.R_elem Z6.out z80 (Z4 : Int) Z27 Z28
    obtain rfl := k80_openM Z41
    have Z44 : wr.cell? ⟨Z29, (Z4 : Int).toNat * 6, none⟩ = some (.int .i64 ((rd_T80 Z2 Z4).f0)) := Z42 0 _ rfl
    have Z45 : wr.cell? ⟨Z29, (Z4 : Int).toNat * 6 + 1, none⟩ = some (.int .i64 ((rd_T80 Z2 Z4).f1)) := Z42 1 _ rfl
    have Z46 : wr.cell? ⟨Z29, (Z4 : Int).toNat * 6 + 2, none⟩ = some (.int .i64 ((rd_T80 Z2 Z4).f2)) := Z42 2 _ rfl
    have Z47 : wr.cell? ⟨Z29, (Z4 : Int).toNat * 6 + 3, none⟩ = some (.int .i64 ((rd_T80 Z2 Z4).f3)) := Z42 3 _ rfl
    have Z48 : wr.cell? ⟨Z29, (Z4 : Int).toNat * 6 + 4, none⟩ = some (.string ((rd_T80 Z2 Z4).f4)) := Z42 4 _ rfl
    have Z49 : wr.cell? ⟨Z29, (Z4 : Int).toNat * 6 + 5, none⟩ = some (.int .i64 ((rd_T80 Z2 Z4).f5)) := Z42 5 _ rfl
    have Z50 : wr.frozen? ⟨Z29, (Z4 : Int).toNat * 6, none⟩ = false := Z43 0
    have Z51 : wr.frozen? ⟨Z29, (Z4 : Int).toNat * 6 + 1, none⟩ = false := Z43 1
    have Z52 : wr.frozen? ⟨Z29, (Z4 : Int).toNat * 6 + 2, none⟩ = false := Z43 2
    have Z53 : wr.frozen? ⟨Z29, (Z4 : Int).toNat * 6 + 3, none⟩ = false := Z43 3
    have Z54 : wr.frozen? ⟨Z29, (Z4 : Int).toNat * 6 + 4, none⟩ = false := Z43 4
    have Z55 : wr.frozen? ⟨Z29, (Z4 : Int).toNat * 6 + 5, none⟩ = false := Z43 5
    clear Z40 Z42 Z43 Z41
    replace Z27 := eq_true Z27
    replace Z28 := eq_true Z28
    have Z56 := ra (show Kd.R k80 80 wr w0.heap.size (fun k_ => (P0_ k_ ∨ w.heap.size ≤ k_)) (.slice (some ⟨Z29, 0, none⟩) Z2.length Z25) Z2 from (rq Z6))
    obtain ⟨Z57, Z58, Z59, Z60, Z61⟩ := Kd.R_elem Z56.out z80 (Z4 : Int) (od) (by have h_ : (Z4 : Int) < ((Z2.length : Int) : Int) := od; first | exact h_ | (have e_ := (Kd.R_reads' Z6.out).1; omega) | simpa using h_)
    obtain rfl := k80_openM Z59
    have Z62 := Kd.R_seg Z56.out (Z4 : Int) (od) (by have h_ : (Z4 : Int) < ((Z2.length : Int) : Int) := od; first | exact h_ | (have e_ := (Kd.R_reads' Z6.out).1; omega) | simpa using h_) (seg := [.int .i64 Z3]) (j := 0) Z58 Z60 (show 1 ≤ 6 from by decide) (x' := (⟨Z3, (rd_T80 Z2 Z4).f1, (rd_T80 Z2 Z4).f2, (rd_T80 Z2 Z4).f3, (rd_T80 Z2 Z4).f4, (rd_T80 Z2 Z4).f5⟩ : S80)) (k80_mkM _ _ _ (⟨Z3, (rd_T80 Z2 Z4).f1, (rd_T80 Z2 Z4).f2, (rd_T80 Z2 Z4).f3, (rd_T80 Z2 Z4).f4, (rd_T80 Z2 Z4).f5⟩ : S80) ) (fun _ hk => hk)
    have Z63 := Z60 0 _ rfl
    (try simp only [show (k80).sz = 6 from rfl, Nat.mul_one, Nat.add_zero] at Z63)
    have Z64 := Z61 0
    (try simp only [show (k80).sz = 6 from rfl, Nat.mul_one, Nat.add_zero] at Z64)
    clear Z58 Z60 Z61 Z59
    go_wp2_with (first | ((with_reducible refine gate_store (t := 3) (p := 16) rfl ?_); refine store_event (t := 3) (p := 16) (v := ?vo_w14) (w1 := (wr.setCell ⟨Z29, (Z4 : Int).toNat * 6, none⟩ (.int .i64 Z3))) ?hg ?ho ?hn ?hr ?_; (case ho => rfl); (case hg => rfl); (case hn => rfl); (case hr => first | (go_simp; done) | (go_simp; rfl)); intro Z65 hw; have hg : wr.grownBy Z65 (some Z29) := (by rw [hw]; exact Z62.2); have hp_ : Kd.R k80 80 Z65 w0.heap.size (fun k_ => (P0_ k_ ∨ w.heap.size ≤ k_)) (.slice (some ⟨Z29, 0, none⟩) Z2.length Z25) Z10 := (by rw [hw, Z11.out]; exact Z62.1); clear Z62; replace HB := ra ((by rw [hw]; exact below_set (HB.out) Z36.out : Below w0.heap.size w0 Z65)); replace HK := ra (Kept.of_grown (S := (fun k_ => P0_ k_)) hg (by repeat (first | (with_reducible first | exact HK.out | apply Kept.alloc | apply Kept.drewN | apply Kept.drew) | exact HK.out)) (fun k_ e_ => (Z6.out.1 k_ e_))); replace Z6 := ra (hp_); clear hg hw hp_; have Z66 : 0 ≤ (Z4 : Int) := od; have Z67 : (Z4 : Int) < ((Z2.length : Int) : Int) := od; obtain ⟨Z68, Z69, Z70, Z71, Z72⟩ := Kd.R_elem Z6.out z80 (Z4 : Int) Z66 Z67; obtain rfl := k80_openM Z70; have Z73 : Z65.cell? ⟨Z29, (Z4 : Int).toNat * 6, none⟩ = some (.int .i64 ((rd_T80 Z10 Z4).f0)) := Z71 0 _ rfl; have Z74 : Z65.cell? ⟨Z29, (Z4 : Int).toNat * 6 + 1, none⟩ = some (.int .i64 ((rd_T80 Z10 Z4).f1)) := Z71 1 _ rfl; have Z75 : Z65.cell? ⟨Z29, (Z4 : Int).toNat * 6 + 2, none⟩ = some (.int .i64 ((rd_T80 Z10 Z4).f2)) := Z71 2 _ rfl; have Z76 : Z65.cell? ⟨Z29, (Z4 : Int).toNat * 6 + 3, none⟩ = some (.int .i64 ((rd_T80 Z10 Z4).f3)) := Z71 3 _ rfl; have Z77 : Z65.cell? ⟨Z29, (Z4 : Int).toNat * 6 + 4, none⟩ = some (.string ((rd_T80 Z10 Z4).f4)) := Z71 4 _ rfl; have Z78 : Z65.cell? ⟨Z29, (Z4 : Int).toNat * 6 + 5, none⟩ = some (.int .i64 ((rd_T80 Z10 Z4).f5)) := Z71 5 _ rfl; have Z79 : Z65.frozen? ⟨Z29, (Z4 : Int).toNat * 6, none⟩ = false := Z72 0; have Z80 : Z65.frozen? ⟨Z29, (Z4 : Int).toNat * 6 + 1, none⟩ = false := Z72 1; have Z81 : Z65.frozen? ⟨Z29, (Z4 : Int).toNat * 6 + 2, none⟩ = false := Z72 2; have Z82 : Z65.frozen? ⟨Z29, (Z4 : Int).toNat * 6 + 3, none⟩ = false := Z72 3; have Z83 : Z65.frozen? ⟨Z29, (Z4 : Int).toNat * 6 + 4, none⟩ = false := Z72 4; have Z84 : Z65.frozen? ⟨Z29, (Z4 : Int).toNat * 6 + 5, none⟩ = false := Z72 5; clear Z69 Z71 Z72 Z70; replace Z66 := eq_true Z66; replace Z67 := eq_true Z67; have Z85 := ra (show Kd.R k80 80 Z65 w0.heap.size (fun k_ => (P0_ k_ ∨ w.heap.size ≤ k_)) (.slice (some ⟨Z29, 0, none⟩) Z2.length Z25) Z10 from (rq Z6)); obtain ⟨Z86, Z87, Z88, Z89, Z90⟩ := Kd.R_elem Z85.out z80 (Z4 : Int) (od) (by have h_ : (Z4 : Int) < ((Z2.length : Int) : Int) := od; first | exact h_ | (have e_ := (Kd.R_reads' Z6.out).1; omega) | simpa using h_); obtain rfl := k80_openM Z88; have Z91 := Kd.R_seg Z85.out (Z4 : Int) (od) (by have h_ : (Z4 : Int) < ((Z2.length : Int) : Int) := od; first | exact h_ | (have e_ := (Kd.R_reads' Z6.out).1; omega) | simpa using h_) (seg := [.int .i64 (wrap64 (Z3 + 1))]) (j := 1) Z87 Z89 (show 2 ≤ 6 from by decide) (x' := (⟨(rd_T80 Z10 Z4).f0, wrap64 (Z3 + 1), (rd_T80 Z10 Z4).f2, (rd_T80 Z10 Z4).f3, (rd_T80 Z10 Z4).f4, (rd_T80 Z10 Z4).f5⟩ : S80)) (k80_mkM _ _ _ (⟨(rd_T80 Z10 Z4).f0, wrap64 (Z3 + 1), (rd_T80 Z10 Z4).f2, (rd_T80 Z10 Z4).f3, (rd_T80 Z10 Z4).f4, (rd_T80 Z10 Z4).f5⟩ : S80) ) (fun _ hk => hk); have Z92 := Z89 1 _ rfl; (try simp only [show (k80).sz = 6 from rfl, Nat.mul_one, Nat.add_zero] at Z92); have Z93 := Z90 1; (try simp only [show (k80).sz = 6 from rfl, Nat.mul_one, Nat.add_zero] at Z93); clear Z87 Z89 Z90 Z88) | ((with_reducible refine gate_store (t := 3) (p := 23) rfl ?_); refine store_event (t := 3) (p := 23) (v := ?vo_w16) (w1 := (Z65.setCell ⟨Z29, (Z4 : Int).toNat * 6 + 1, none⟩ (.int .i64 (wrap64 (Z3 + 1))))) ?hg ?ho ?hn ?hr ?_; (case ho => rfl); (case hg => rfl); (case hn => rfl); (case hr => first | (go_simp; done) | (go_simp; rfl)); intro Z94 hw; have hg : Z65.grownBy Z94 (some Z29) := (by rw [hw]; exact Z91.2); have hp_ : Kd.R k80 80 Z94 w0.heap.size (fun k_ => (P0_ k_ ∨ w.heap.size ≤ k_)) (.slice (some ⟨Z29, 0, none⟩) Z2.length Z25) Z12 := (by rw [hw, Z13.out]; exact Z91.1); clear Z91; replace HB := ra ((by rw [hw]; exact below_set (HB.out) Z36.out : Below w0.heap.size w0 Z94)); replace HK := ra (Kept.of_grown (S := (fun k_ => P0_ k_)) hg (by repeat (first | (with_reducible first | exact HK.out | apply Kept.alloc | apply Kept.drewN | apply Kept.drew) | exact HK.out)) (fun k_ e_ => (Z6.out.1 k_ e_))); replace Z6 := ra (hp_); clear hg hw hp_; have Z95 : 0 ≤ (Z4 : Int) := od; have Z96 : (Z4 : Int) < ((Z2.length : Int) : Int) := od; obtain ⟨Z97, Z98, Z99, Z100, Z101⟩ := Kd.R_elem Z6.out z80 (Z4 : Int) Z95 Z96; obtain rfl := k80_openM Z99; have Z102 : Z94.cell? ⟨Z29, (Z4 : Int).toNat * 6, none⟩ = some (.int .i64 ((rd_T80 Z12 Z4).f0)) := Z100 0 _ rfl; have Z103 : Z94.cell? ⟨Z29, (Z4 : Int).toNat * 6 + 1, none⟩ = some (.int .i64 ((rd_T80 Z12 Z4).f1)) := Z100 1 _ rfl; have Z104 : Z94.cell? ⟨Z29, (Z4 : Int).toNat * 6 + 2, none⟩ = some (.int .i64 ((rd_T80 Z12 Z4).f2)) := Z100 2 _ rfl; have Z105 : Z94.cell? ⟨Z29, (Z4 : Int).toNat * 6 + 3, none⟩ = some (.int .i64 ((rd_T80 Z12 Z4).f3)) := Z100 3 _ rfl; have Z106 : Z94.cell? ⟨Z29, (Z4 : Int).toNat * 6 + 4, none⟩ = some (.string ((rd_T80 Z12 Z4).f4)) := Z100 4 _ rfl; have Z107 : Z94.cell? ⟨Z29, (Z4 : Int).toNat * 6 + 5, none⟩ = some (.int .i64 ((rd_T80 Z12 Z4).f5)) := Z100 5 _ rfl; have Z108 : Z94.frozen? ⟨Z29, (Z4 : Int).toNat * 6, none⟩ = false := Z101 0; have Z109 : Z94.frozen? ⟨Z29, (Z4 : Int).toNat * 6 + 1, none⟩ = false := Z101 1; have Z110 : Z94.frozen? ⟨Z29, (Z4 : Int).toNat * 6 + 2, none⟩ = false := Z101 2; have Z111 : Z94.frozen? ⟨Z29, (Z4 : Int).toNat * 6 + 3, none⟩ = false := Z101 3; have Z112 : Z94.frozen? ⟨Z29, (Z4 : Int).toNat * 6 + 4, none⟩ = false := Z101 4; have Z113 : Z94.frozen? ⟨Z29, (Z4 : Int).toNat * 6 + 5, none⟩ = false := Z101 5; clear Z98 Z100 Z101 Z99; replace Z95 := eq_true Z95; replace Z96 := eq_true Z96; have Z114 := ra (show Kd.R k80 80 Z94 w0.heap.size (fun k_ => (P0_ k_ ∨ w.heap.size ≤ k_)) (.slice (some ⟨Z29, 0, none⟩) Z2.length Z25) Z12 from (rq Z6)); obtain ⟨Z115, Z116, Z117, Z118, Z119⟩ := Kd.R_elem Z114.out z80 (Z4 : Int) (od) (by have h_ : (Z4 : Int) < ((Z2.length : Int) : Int) := od; first | exact h_ | (have e_ := (Kd.R_reads' Z6.out).1; omega) | simpa using h_); obtain rfl := k80_openM Z117; have Z120 := Kd.R_seg Z114.out (Z4 : Int) (od) (by have h_ : (Z4 : Int) < ((Z2.length : Int) : Int) := od; first | exact h_ | (have e_ := (Kd.R_reads' Z6.out).1; omega) | simpa using h_) (seg := [.int .i64 (wrap64 ((wrap64 (Z3 + 1)) + 1))]) (j := 2) Z116 Z118 (show 3 ≤ 6 from by decide) (x' := (⟨(rd_T80 Z12 Z4).f0, (rd_T80 Z12 Z4).f1, wrap64 ((wrap64 (Z3 + 1)) + 1), (rd_T80 Z12 Z4).f3, (rd_T80 Z12 Z4).f4, (rd_T80 Z12 Z4).f5⟩ : S80)) (k80_mkM _ _ _ (⟨(rd_T80 Z12 Z4).f0, (rd_T80 Z12 Z4).f1, wrap64 ((wrap64 (Z3 + 1)) + 1), (rd_T80 Z12 Z4).f3, (rd_T80 Z12 Z4).f4, (rd_T80 Z12 Z4).f5⟩ : S80) ) (fun _ hk => hk); have Z121 := Z118 2 _ rfl; (try simp only [show (k80).sz = 6 from rfl, Nat.mul_one, Nat.add_zero] at Z121); have Z122 := Z119 2; (try simp only [show (k80).sz = 6 from rfl, Nat.mul_one, Nat.add_zero] at Z122); clear Z116 Z118 Z119 Z117) | ((with_reducible refine gate_store (t := 3) (p := 30) rfl ?_); refine store_event (t := 3) (p := 30) (v := ?vo_w18) (w1 := (Z94.setCell ⟨Z29, (Z4 : Int).toNat * 6 + 2, none⟩ (.int .i64 (wrap64 ((wrap64 (Z3 + 1)) + 1))))) ?hg ?ho ?hn ?hr ?_; (case ho => rfl); (case hg => rfl); (case hn => rfl); (case hr => first | (go_simp; done) | (go_simp; rfl)); intro Z123 hw; have hg : Z94.grownBy Z123 (some Z29) := (by rw [hw]; exact Z120.2); have hp_ : Kd.R k80 80 Z123 w0.heap.size (fun k_ => (P0_ k_ ∨ w.heap.size ≤ k_)) (.slice (some ⟨Z29, 0, none⟩) Z2.length Z25) Z14 := (by rw [hw, Z15.out]; exact Z120.1); clear Z120; replace HB := ra ((by rw [hw]; exact below_set (HB.out) Z36.out : Below w0.heap.size w0 Z123)); replace HK := ra (Kept.of_grown (S := (fun k_ => P0_ k_)) hg (by repeat (first | (with_reducible first | exact HK.out | apply Kept.alloc | apply Kept.drewN | apply Kept.drew) | exact HK.out)) (fun k_ e_ => (Z6.out.1 k_ e_))); replace Z6 := ra (hp_); clear hg hw hp_; have Z124 : 0 ≤ (Z4 : Int) := od; have Z125 : (Z4 : Int) < ((Z2.length : Int) : Int) := od; obtain ⟨Z126, Z127, Z128, Z129, Z130⟩ := Kd.R_elem Z6.out z80 (Z4 : Int) Z124 Z125; obtain rfl := k80_openM Z128; have Z131 : Z123.cell? ⟨Z29, (Z4 : Int).toNat * 6, none⟩ = some (.int .i64 ((rd_T80 Z14 Z4).f0)) := Z129 0 _ rfl; have Z132 : Z123.cell? ⟨Z29, (Z4 : Int).toNat * 6 + 1, none⟩ = some (.int .i64 ((rd_T80 Z14 Z4).f1)) := Z129 1 _ rfl; have Z133 : Z123.cell? ⟨Z29, (Z4 : Int).toNat * 6 + 2, none⟩ = some (.int .i64 ((rd_T80 Z14 Z4).f2)) := Z129 2 _ rfl; have Z134 : Z123.cell? ⟨Z29, (Z4 : Int).toNat * 6 + 3, none⟩ = some (.int .i64 ((rd_T80 Z14 Z4).f3)) := Z129 3 _ rfl; have Z135 : Z123.cell? ⟨Z29, (Z4 : Int).toNat * 6 + 4, none⟩ = some (.string ((rd_T80 Z14 Z4).f4)) := Z129 4 _ rfl; have Z136 : Z123.cell? ⟨Z29, (Z4 : Int).toNat * 6 + 5, none⟩ = some (.int .i64 ((rd_T80 Z14 Z4).f5)) := Z129 5 _ rfl; have Z137 : Z123.frozen? ⟨Z29, (Z4 : Int).toNat * 6, none⟩ = false := Z130 0; have Z138 : Z123.frozen? ⟨Z29, (Z4 : Int).toNat * 6 + 1, none⟩ = false := Z130 1; have Z139 : Z123.frozen? ⟨Z29, (Z4 : Int).toNat * 6 + 2, none⟩ = false := Z130 2; have Z140 : Z123.frozen? ⟨Z29, (Z4 : Int).toNat * 6 + 3, none⟩ = false := Z130 3; have Z141 : Z123.frozen? ⟨Z29, (Z4 : Int).toNat * 6 + 4, none⟩ = false := Z130 4; have Z142 : Z123.frozen? ⟨Z29, (Z4 : Int).toNat * 6 + 5, none⟩ = false := Z130 5; clear Z127 Z129 Z130 Z128; replace Z124 := eq_true Z124; replace Z125 := eq_true Z125; have Z143 := ra (show Kd.R k80 80 Z123 w0.heap.size (fun k_ => (P0_ k_ ∨ w.heap.size ≤ k_)) (.slice (some ⟨Z29, 0, none⟩) Z2.length Z25) Z14 from (rq Z6)); obtain ⟨Z144, Z145, Z146, Z147, Z148⟩ := Kd.R_elem Z143.out z80 (Z4 : Int) (od) (by have h_ : (Z4 : Int) < ((Z2.length : Int) : Int) := od; first | exact h_ | (have e_ := (Kd.R_reads' Z6.out).1; omega) | simpa using h_); obtain rfl := k80_openM Z146; have Z149 := Kd.R_seg Z143.out (Z4 : Int) (od) (by have h_ : (Z4 : Int) < ((Z2.length : Int) : Int) := od; first | exact h_ | (have e_ := (Kd.R_reads' Z6.out).1; omega) | simpa using h_) (seg := [.int .i64 (wrap64 ((wrap64 ((wrap64 (Z3 + 1)) + 1)) + 1))]) (j := 3) Z145 Z147 (show 4 ≤ 6 from by decide) (x' := (⟨(rd_T80 Z14 Z4).f0, (rd_T80 Z14 Z4).f1, (rd_T80 Z14 Z4).f2, wrap64 ((wrap64 ((wrap64 (Z3 + 1)) + 1)) + 1), (rd_T80 Z14 Z4).f4, (rd_T80 Z14 Z4).f5⟩ : S80)) (k80_mkM _ _ _ (⟨(rd_T80 Z14 Z4).f0, (rd_T80 Z14 Z4).f1, (rd_T80 Z14 Z4).f2, wrap64 ((wrap64 ((wrap64 (Z3 + 1)) + 1)) + 1), (rd_T80 Z14 Z4).f4, (rd_T80 Z14 Z4).f5⟩ : S80) ) (fun _ hk => hk); have Z150 := Z147 3 _ rfl; (try simp only [show (k80).sz = 6 from rfl, Nat.mul_one, Nat.add_zero] at Z150); have Z151 := Z148 3; (try simp only [show (k80).sz = 6 from rfl, Nat.mul_one, Nat.add_zero] at Z151); clear Z145 Z147 Z148 Z146) | ((with_reducible refine gate_store (t := 3) (p := 37) rfl ?_); refine store_event (t := 3) (p := 37) (v := ?vo_w20) (w1 := (Z123.setCell ⟨Z29, (Z4 : Int).toNat * 6 + 3, none⟩ (.int .i64 (wrap64 ((wrap64 ((wrap64 (Z3 + 1)) + 1)) + 1))))) ?hg ?ho ?hn ?hr ?_; (case ho => rfl); (case hg => rfl); (case hn => rfl); (case hr => first | (go_simp; done) | (go_simp; rfl)); intro Z152 hw; have hg : Z123.grownBy Z152 (some Z29) := (by rw [hw]; exact Z149.2); have hp_ : Kd.R k80 80 Z152 w0.heap.size (fun k_ => (P0_ k_ ∨ w.heap.size ≤ k_)) (.slice (some ⟨Z29, 0, none⟩) Z2.length Z25) Z16 := (by rw [hw, Z17.out]; exact Z149.1); clear Z149; replace HB := ra ((by rw [hw]; exact below_set (HB.out) Z36.out : Below w0.heap.size w0 Z152)); replace HK := ra (Kept.of_grown (S := (fun k_ => P0_ k_)) hg (by repeat (first | (with_reducible first | exact HK.out | apply Kept.alloc | apply Kept.drewN | apply Kept.drew) | exact HK.out)) (fun k_ e_ => (Z6.out.1 k_ e_))); replace Z6 := ra (hp_); clear hg hw hp_) | ((with_reducible refine gc 65 rfl ?_); refine gy (some 43) Tryz.func65 (laws_markText.calls _ _ _ _ Z19.out) ?_; rintro Z153 hb; replace Z6 := ra (Kd.R_below (rq Z6) hb); replace HK := ra (Kept.below (S := (fun k_ => P0_ k_)) (by repeat (first | (with_reducible first | exact HK.out | apply Kept.alloc | apply Kept.drewN | apply Kept.drew) | exact HK.out)) hb); replace HB := bs hb; clear hb; have Z154 : 0 ≤ (Z4 : Int) := od; have Z155 : (Z4 : Int) < ((Z2.length : Int) : Int) := od; obtain ⟨Z156, Z157, Z158, Z159, Z160⟩ := Kd.R_elem Z6.out z80 (Z4 : Int) Z154 Z155; obtain rfl := k80_openM Z158; have Z161 : Z153.cell? ⟨Z29, (Z4 : Int).toNat * 6, none⟩ = some (.int .i64 ((rd_T80 Z16 Z4).f0)) := Z159 0 _ rfl; have Z162 : Z153.cell? ⟨Z29, (Z4 : Int).toNat * 6 + 1, none⟩ = some (.int .i64 ((rd_T80 Z16 Z4).f1)) := Z159 1 _ rfl; have Z163 : Z153.cell? ⟨Z29, (Z4 : Int).toNat * 6 + 2, none⟩ = some (.int .i64 ((rd_T80 Z16 Z4).f2)) := Z159 2 _ rfl; have Z164 : Z153.cell? ⟨Z29, (Z4 : Int).toNat * 6 + 3, none⟩ = some (.int .i64 ((rd_T80 Z16 Z4).f3)) := Z159 3 _ rfl; have Z165 : Z153.cell? ⟨Z29, (Z4 : Int).toNat * 6 + 4, none⟩ = some (.string ((rd_T80 Z16 Z4).f4)) := Z159 4 _ rfl; have Z166 : Z153.cell? ⟨Z29, (Z4 : Int).toNat * 6 + 5, none⟩ = some (.int .i64 ((rd_T80 Z16 Z4).f5)) := Z159 5 _ rfl; have Z167 : Z153.frozen? ⟨Z29, (Z4 : Int).toNat * 6, none⟩ = false := Z160 0; have Z168 : Z153.frozen? ⟨Z29, (Z4 : Int).toNat * 6 + 1, none⟩ = false := Z160 1; have Z169 : Z153.frozen? ⟨Z29, (Z4 : Int).toNat * 6 + 2, none⟩ = false := Z160 2; have Z170 : Z153.frozen? ⟨Z29, (Z4 : Int).toNat * 6 + 3, none⟩ = false := Z160 3; have Z171 : Z153.frozen? ⟨Z29, (Z4 : Int).toNat * 6 + 4, none⟩ = false := Z160 4; have Z172 : Z153.frozen? ⟨Z29, (Z4 : Int).toNat * 6 + 5, none⟩ = false := Z160 5; clear Z157 Z159 Z160 Z158; replace Z154 := eq_true Z154; replace Z155 := eq_true Z155; have Z173 := ra (show Kd.R k80 80 Z153 w0.heap.size (fun k_ => (P0_ k_ ∨ w.heap.size ≤ k_)) (.slice (some ⟨Z29, 0, none⟩) Z2.length Z25) Z16 from (rq Z6)); obtain ⟨Z174, Z175, Z176, Z177, Z178⟩ := Kd.R_elem Z173.out z80 (Z4 : Int) (od) (by have h_ : (Z4 : Int) < ((Z2.length : Int) : Int) := od; first | exact h_ | (have e_ := (Kd.R_reads' Z6.out).1; omega) | simpa using h_); obtain rfl := k80_openM Z176; have Z179 := Kd.R_seg Z173.out (Z4 : Int) (od) (by have h_ : (Z4 : Int) < ((Z2.length : Int) : Int) := od; first | exact h_ | (have e_ := (Kd.R_reads' Z6.out).1; omega) | simpa using h_) (seg := [.string Z18]) (j := 4) Z175 Z177 (show 5 ≤ 6 from by decide) (x' := (⟨(rd_T80 Z16 Z4).f0, (rd_T80 Z16 Z4).f1, (rd_T80 Z16 Z4).f2, (rd_T80 Z16 Z4).f3, Z18, (rd_T80 Z16 Z4).f5⟩ : S80)) (k80_mkM _ _ _ (⟨(rd_T80 Z16 Z4).f0, (rd_T80 Z16 Z4).f1, (rd_T80 Z16 Z4).f2, (rd_T80 Z16 Z4).f3, Z18, (rd_T80 Z16 Z4).f5⟩ : S80) ) (fun _ hk => hk); have Z180 := Z177 4 _ rfl; (try simp only [show (k80).sz = 6 from rfl, Nat.mul_one, Nat.add_zero] at Z180); have Z181 := Z178 4; (try simp only [show (k80).sz = 6 from rfl, Nat.mul_one, Nat.add_zero] at Z181); clear Z175 Z177 Z178 Z176) | ((with_reducible refine gate_store (t := 9) (p := 45) rfl ?_); refine store_event (t := 9) (p := 45) (v := ?vo_w23) (w1 := (Z153.setCell ⟨Z29, (Z4 : Int).toNat * 6 + 4, none⟩ (.string Z18))) ?hg ?ho ?hn ?hr ?_; (case ho => rfl); (case hg => rfl); (case hn => rfl); (case hr => first | (go_simp; done) | (go_simp; rfl)); intro Z182 hw; have hg : Z153.grownBy Z182 (some Z29) := (by rw [hw]; exact Z179.2); have hp_ : Kd.R k80 80 Z182 w0.heap.size (fun k_ => (P0_ k_ ∨ w.heap.size ≤ k_)) (.slice (some ⟨Z29, 0, none⟩) Z2.length Z25) Z20 := (by rw [hw, Z21.out]; exact Z179.1); clear Z179; replace HB := ra ((by rw [hw]; exact below_set (HB.out) Z36.out : Below w0.heap.size w0 Z182)); replace HK := ra (Kept.of_grown (S := (fun k_ => P0_ k_)) hg (by repeat (first | (with_reducible first | exact HK.out | apply Kept.alloc | apply Kept.drewN | apply Kept.drew) | exact HK.out)) (fun k_ e_ => (Z6.out.1 k_ e_))); replace Z6 := ra (hp_); clear hg hw hp_; have Z183 : 0 ≤ (Z4 : Int) := od; have Z184 : (Z4 : Int) < ((Z2.length : Int) : Int) := od; obtain ⟨Z185, Z186, Z187, Z188, Z189⟩ := Kd.R_elem Z6.out z80 (Z4 : Int) Z183 Z184; obtain rfl := k80_openM Z187; have Z190 : Z182.cell? ⟨Z29, (Z4 : Int).toNat * 6, none⟩ = some (.int .i64 ((rd_T80 Z20 Z4).f0)) := Z188 0 _ rfl; have Z191 : Z182.cell? ⟨Z29, (Z4 : Int).toNat * 6 + 1, none⟩ = some (.int .i64 ((rd_T80 Z20 Z4).f1)) := Z188 1 _ rfl; have Z192 : Z182.cell? ⟨Z29, (Z4 : Int).toNat * 6 + 2, none⟩ = some (.int .i64 ((rd_T80 Z20 Z4).f2)) := Z188 2 _ rfl; have Z193 : Z182.cell? ⟨Z29, (Z4 : Int).toNat * 6 + 3, none⟩ = some (.int .i64 ((rd_T80 Z20 Z4).f3)) := Z188 3 _ rfl; have Z194 : Z182.cell? ⟨Z29, (Z4 : Int).toNat * 6 + 4, none⟩ = some (.string ((rd_T80 Z20 Z4).f4)) := Z188 4 _ rfl; have Z195 : Z182.cell? ⟨Z29, (Z4 : Int).toNat * 6 + 5, none⟩ = some (.int .i64 ((rd_T80 Z20 Z4).f5)) := Z188 5 _ rfl; have Z196 : Z182.frozen? ⟨Z29, (Z4 : Int).toNat * 6, none⟩ = false := Z189 0; have Z197 : Z182.frozen? ⟨Z29, (Z4 : Int).toNat * 6 + 1, none⟩ = false := Z189 1; have Z198 : Z182.frozen? ⟨Z29, (Z4 : Int).toNat * 6 + 2, none⟩ = false := Z189 2; have Z199 : Z182.frozen? ⟨Z29, (Z4 : Int).toNat * 6 + 3, none⟩ = false := Z189 3; have Z200 : Z182.frozen? ⟨Z29, (Z4 : Int).toNat * 6 + 4, none⟩ = false := Z189 4; have Z201 : Z182.frozen? ⟨Z29, (Z4 : Int).toNat * 6 + 5, none⟩ = false := Z189 5; clear Z186 Z188 Z189 Z187; replace Z183 := eq_true Z183; replace Z184 := eq_true Z184; have Z202 := ra (show Kd.R k80 80 Z182 w0.heap.size (fun k_ => (P0_ k_ ∨ w.heap.size ≤ k_)) (.slice (some ⟨Z29, 0, none⟩) Z2.length Z25) Z20 from (rq Z6)); obtain ⟨Z203, Z204, Z205, Z206, Z207⟩ := Kd.R_elem Z202.out z80 (Z4 : Int) (od) (by have h_ : (Z4 : Int) < ((Z2.length : Int) : Int) := od; first | exact h_ | (have e_ := (Kd.R_reads' Z6.out).1; omega) | simpa using h_); obtain rfl := k80_openM Z205; have Z208 := Kd.R_seg Z202.out (Z4 : Int) (od) (by have h_ : (Z4 : Int) < ((Z2.length : Int) : Int) := od; first | exact h_ | (have e_ := (Kd.R_reads' Z6.out).1; omega) | simpa using h_) (seg := [.int .i64 (wrap64 ((wrap64 ((wrap64 ((wrap64 ((wrap64 (Z3 + 1)) + 1)) + 1)) + 1)) + 1))]) (j := 5) Z204 Z206 (show 6 ≤ 6 from by decide) (x' := (⟨(rd_T80 Z20 Z4).f0, (rd_T80 Z20 Z4).f1, (rd_T80 Z20 Z4).f2, (rd_T80 Z20 Z4).f3, (rd_T80 Z20 Z4).f4, wrap64 ((wrap64 ((wrap64 ((wrap64 ((wrap64 (Z3 + 1)) + 1)) + 1)) + 1)) + 1)⟩ : S80)) (k80_mkM _ _ _ (⟨(rd_T80 Z20 Z4).f0, (rd_T80 Z20 Z4).f1, (rd_T80 Z20 Z4).f2, (rd_T80 Z20 Z4).f3, (rd_T80 Z20 Z4).f4, wrap64 ((wrap64 ((wrap64 ((wrap64 ((wrap64 (Z3 + 1)) + 1)) + 1)) + 1)) + 1)⟩ : S80) ) (fun _ hk => hk); have Z209 := Z206 5 _ rfl; (try simp only [show (k80).sz = 6 from rfl, Nat.mul_one, Nat.add_zero] at Z209); have Z210 := Z207 5; (try simp only [show (k80).sz = 6 from rfl, Nat.mul_one, Nat.add_zero] at Z210); clear Z204 Z206 Z207 Z205) | ((with_reducible refine gate_store (t := 3) (p := 52) rfl ?_); refine store_event (t := 3) (p := 52) (v := ?vo_w25) (w1 := (Z182.setCell ⟨Z29, (Z4 : Int).toNat * 6 + 5, none⟩ (.int .i64 (wrap64 ((wrap64 ((wrap64 ((wrap64 ((wrap64 (Z3 + 1)) + 1)) + 1)) + 1)) + 1))))) ?hg ?ho ?hn ?hr ?_; (case ho => rfl); (case hg => rfl); (case hn => rfl); (case hr => first | (go_simp; done) | (go_simp; rfl)); intro Z211 hw; have hg : Z182.grownBy Z211 (some Z29) := (by rw [hw]; exact Z208.2); have hp_ : Kd.R k80 80 Z211 w0.heap.size (fun k_ => (P0_ k_ ∨ w.heap.size ≤ k_)) (.slice (some ⟨Z29, 0, none⟩) Z2.length Z25) Z22 := (by rw [hw, Z23.out]; exact Z208.1); clear Z208; replace HB := ra ((by rw [hw]; exact below_set (HB.out) Z36.out : Below w0.heap.size w0 Z211)); replace HK := ra (Kept.of_grown (S := (fun k_ => P0_ k_)) hg (by repeat (first | (with_reducible first | exact HK.out | apply Kept.alloc | apply Kept.drewN | apply Kept.drew) | exact HK.out)) (fun k_ e_ => (Z6.out.1 k_ e_))); replace Z6 := ra (hp_); clear hg hw hp_))
    go_roundg Z7
    case measure => have := Z5.out; omega
    case rel => exact ⟨(Z22), (wrap64 ((wrap64 ((wrap64 ((wrap64 ((wrap64 ((wrap64 (Z3 + 1)) + 1)) + 1)) + 1)) + 1)) + 1)), (wrap64 (Z4 + 1)), rs, rs, H', ⟨by have := Z5.out; omega⟩, ⟨rq Z6⟩, ⟨by repeat (first | (with_reducible first | exact HK.out | apply Kept.alloc | apply Kept.drewN | apply Kept.drew) | exact HK.out)⟩, ⟨bq⟩⟩
   ·simp only [Option.some.injEq, Prod.mk.injEq] at H
    obtain ⟨rfl, rfl⟩ := H
    obtain ⟨Z9, Z10, Z11⟩ := Kd.R_slice Z6.out
    subst Z11
    go_wp2
    go_ret
    exact ⟨re, rq Z6, bq, by repeat (first | (with_reducible first | exact HK.out | apply Kept.alloc | apply Kept.drewN | apply Kept.drew) | exact HK.out)⟩
theorem laws_markProbeCellS.calls (k : Nat) (P0_ : Nat → Prop) (u9000_ : Value) (l0 : List (S84)) (a1 r1 : Int) (r2 : List (S84)) (w0 w : World) (hB : Below w0.heap.size w0 w) (ho0 : Kd.S k84 84 w w0.heap.size P0_ u9000_ l0) (h : laws_markProbeCellS.f k l0 a1 = some (r1, r2)) :
  Calls Tryz.prog 64 #[u9000_, .int .i64 a1] w fun e w' => e = .returned (.int .i64 r1) ∧ Kd.S k84 84 w' w0.heap.size (fun k_ => P0_ k_) u9000_ r2 ∧ Below w0.heap.size w0 w' ∧ Kept w w' (fun k_ => P0_ k_) := by
 have Z0 := ra (show Kd.S k84 84 w w0.heap.size (fun k_ => P0_ k_) u9000_ l0 from ho0)
 have HK := ra (Kept.refl w (fun k_ => P0_ k_))
 have Z1 := Aside0.mk hB.size
 have HB := ra hB; clear hB
 have H := h; unfold laws_markProbeCellS.f at H
 clear h
 have H' := ra H; clear H
 go_enter Tryz.func64, Tryz.ntmps64
 go_wp2
 go_loopg [1, 5] k (fun kq v1 v5 w' => ∃ (x0_1 : List (S84)) (x1_1 : Int) (x5_1 : Int), v1 = .int .i64 x1_1 ∧ v5 = .int .i64 x5_1 ∧ Aside0 (laws_markProbeCellS.l0 kq x0_1 x1_1 x5_1 = some (r1, r2)) ∧ Aside0 (kq ≤ k) ∧ Aside0 (Kd.S k84 84 w' w0.heap.size (fun k_ => P0_ k_) u9000_ x0_1) ∧ Aside0 (Kept w w' (fun k_ => P0_ k_)) ∧ Aside0 (Below w0.heap.size w0 w'))
 case atStart => exact ⟨(l0), (a1), (0), rs, rs, H', ⟨Nat.le_refl _⟩, ⟨by (with_reducible repeat (first | apply Kd.S_alloc | apply Kd.S_drewN | apply Kd.S_drew)); exact Z0.out⟩, ⟨by repeat (first | (with_reducible first | exact HK.out | apply Kept.alloc | apply Kept.drewN | apply Kept.drew) | exact HK.out)⟩, ⟨bq⟩⟩
 case round =>
  clear H'
  obtain ⟨Z2, Z3, Z4, rfl, rfl, HA, Z5, Z6, HK, HB⟩ := hrel
  cases gk with
  | zero => exact absurd HA.out (by simp [laws_markProbeCellS.l0])
  | succ Z7 =>
   have H := HA.out
   clear HA
   simp only [laws_markProbeCellS.l0] at H
   rcases td H with ⟨Z8, H⟩ | ⟨Z8, H⟩
   ·obtain ⟨Z9, H⟩ := tn H
    obtain ⟨Z10, hy_⟩ : ∃ y_ : List (S84), y_ = (Z2.set (Z4 : Int).toNat (⟨Z3, (rd_T84 Z2 Z4).f1, (rd_T84 Z2 Z4).f2⟩ : S84)) := ⟨_, rfl⟩
    replace H : ((some (Z10.set (Z4 : Int).toNat (⟨(rd_T84 Z10 Z4).f0, wrap64 (Z3 + 1), (rd_T84 Z10 Z4).f2⟩ : S84) : List (S84))).bind fun y1035 => ((laws_markProbeSlotS.f Z7 ((rd_T84 y1035 Z4).f2) (wrap64 ((wrap64 (Z3 + 1)) + 1))).bind fun bt_ => (laws_markProbeCellS.l0 Z7 (y1035.set (Z4 : Int).toNat (⟨(rd_T84 y1035 Z4).f0, (rd_T84 y1035 Z4).f1, bt_.2⟩ : S84)) bt_.1 (wrap64 (Z4 + 1))))) = some (r1, r2) := yh
    have Z11 := ra hy_
    clear hy_
    obtain ⟨Z12, hy_⟩ : ∃ y_ : List (S84), y_ = (Z10.set (Z4 : Int).toNat (⟨(rd_T84 Z10 Z4).f0, wrap64 (Z3 + 1), (rd_T84 Z10 Z4).f2⟩ : S84)) := ⟨_, rfl⟩
    replace H : ((laws_markProbeSlotS.f Z7 ((rd_T84 Z12 Z4).f2) (wrap64 ((wrap64 (Z3 + 1)) + 1))).bind fun bt_ => (laws_markProbeCellS.l0 Z7 (Z12.set (Z4 : Int).toNat (⟨(rd_T84 Z12 Z4).f0, (rd_T84 Z12 Z4).f1, bt_.2⟩ : S84)) bt_.1 (wrap64 (Z4 + 1)))) = some (r1, r2) := yh
    have Z13 := ra hy_
    clear hy_
    obtain ⟨⟨Z14, Z15⟩, Z16, H⟩ := bo H
    try dsimp only at H
    have H' := ra H; clear H
    obtain ⟨Z17, Z18, Z19⟩ := Kd.S_slice Z6.out
    subst Z19
    have Z20 : 0 ≤ (Z4 : Int) := od
    have Z21 : (Z4 : Int) < ((Z2.length : Int) : Int) := od
    obtain ⟨Z22, Z23, Z24, Z25, Z26, Z27, Z28⟩ := Kd.S_form Z6.out (by omega)
    (first | cases Z24 | (injection Z24 with ea_ en_ ec_; (first | subst ea_ | (injection ea_ with ea_; subst ea_)); subst ec_; clear en_))
    have Z29 := ra Z25
    have Z30 := ra Z28
    clear Z25 Z26 Z28
    have Z31 := ra (show (P0_ Z22) from ((Kd.S_R Z6.out).1 _ rfl))
    obtain ⟨_, Z32, Z33, Z34, Z35, Z36, _, _⟩ := Kd.S_elem Z6.out z84 (Z4 : Int) Z20 Z21
    obtain ⟨Z37, rfl, Z38⟩ := k84_openM Z34
    have Z39 : wr.cell? ⟨Z22, (Z4 : Int).toNat * 3, none⟩ = some (.int .i64 ((rd_T84 Z2 Z4).f0)) := Z35 0 _ rfl
    have Z40 : wr.cell? ⟨Z22, (Z4 : Int).toNat * 3 + 1, none⟩ = some (.int .i64 ((rd_T84 Z2 Z4).f1)) := Z35 1 _ rfl
    have Z41 : wr.cell? ⟨Z22, (Z4 : Int).toNat * 3 + 2, none⟩ = some (Z37) := Z35 2 _ rfl
    have Z42 : wr.frozen? ⟨Z22, (Z4 : Int).toNat * 3, none⟩ = false := Z36 0
    have Z43 : wr.frozen? ⟨Z22, (Z4 : Int).toNat * 3 + 1, none⟩ = false := Z36 1
    have Z44 : wr.frozen? ⟨Z22, (Z4 : Int).toNat * 3 + 2, none⟩ = false := Z36 2
    clear Z33 Z35 Z36 Z34
    replace Z20 := eq_true Z20
    replace Z21 := eq_true Z21
    have Z45 := ra (show Kd.S k84 84 wr w0.heap.size (fun k_ => ((fun k_ => P0_ k_)) k_ ∧ ¬ ((fun _ => False)) k_) (.slice (some ⟨Z22, 0, none⟩) Z2.length Z18) Z2 from (by (with_reducible repeat (first | apply Kd.S_alloc | apply Kd.S_drewN | apply Kd.S_drew)); exact Kd.S_mono Z6.out (fun k_ hk => ⟨hk, fun e_ => e_⟩)))
    obtain ⟨Z46, Z47, Z48, Z49, Z50, Z51, Z52, Z53⟩ := Kd.S_elem Z45.out z84 (Z4 : Int) (od) (by have h_ : (Z4 : Int) < ((Z2.length : Int) : Int) := od; first | exact h_ | (have e_ := (Kd.S_reads' Z6.out).1; omega) | simpa using h_)
    obtain ⟨Z54, rfl, Z55⟩ := k84_openM Z49
    have Z56 := Kd.S_seg Z53 (od) (by have h_ : (Z4 : Int) < ((Z2.length : Int) : Int) := od; first | exact h_ | (have e_ := (Kd.S_reads' Z6.out).1; omega) | simpa using h_) (seg := [.int .i64 Z3]) (j := 0) (show 1 ≤ 3 from by decide) (x' := (⟨Z3, (rd_T84 Z2 Z4).f1, (rd_T84 Z2 Z4).f2⟩ : S84)) (k84_mkM _ _ _ (⟨Z3, (rd_T84 Z2 Z4).f1, (rd_T84 Z2 Z4).f2⟩ : S84) (Kd.R_mono Z55 (fun _ h_ => Or.inl h_))) (fun _ hk => hk) (fun k_ hk_ => hk_.elim)
    have Z57 := Z50 0 _ rfl
    (try simp only [show (k84).sz = 3 from rfl, Nat.mul_one, Nat.add_zero] at Z57)
    have Z58 := Z51 0
    (try simp only [show (k84).sz = 3 from rfl, Nat.mul_one, Nat.add_zero] at Z58)
    clear Z48 Z50 Z51 Z49 Z52 Z53
    go_wp2_with (first | ((with_reducible refine gate_store (t := 3) (p := 16) rfl ?_); refine store_event (t := 3) (p := 16) (v := ?vo_w10) (w1 := (wr.setCell ⟨Z22, (Z4 : Int).toNat * 3, none⟩ (.int .i64 Z3))) ?hg ?ho ?hn ?hr ?_; (case ho => rfl); (case hg => rfl); (case hn => rfl); (case hr => first | (go_simp; done) | (go_simp; rfl)); intro Z59 hw; have hg : wr.grownBy Z59 (some Z22) := (by rw [hw]; exact Z56.2); have hp_ : Kd.S k84 84 Z59 w0.heap.size (fun k_ => P0_ k_) (.slice (some ⟨Z22, 0, none⟩) Z2.length Z18) Z10 := (by rw [hw, Z11.out]; exact Z56.1); clear Z56; replace HB := ra ((by rw [hw]; exact below_set (HB.out) Z29.out : Below w0.heap.size w0 Z59)); replace HK := ra (Kept.of_grown (S := (fun k_ => P0_ k_)) hg (by repeat (first | (with_reducible first | exact HK.out | apply Kept.alloc | apply Kept.drewN | apply Kept.drew) | exact HK.out)) (fun k_ e_ => .inl ((Kd.S_R Z6.out).1 k_ e_))); replace Z6 := ra (hp_); clear hg hw hp_; have Z60 : 0 ≤ (Z4 : Int) := od; have Z61 : (Z4 : Int) < ((Z2.length : Int) : Int) := od; obtain ⟨_, Z62, Z63, Z64, Z65, Z66, _, _⟩ := Kd.S_elem Z6.out z84 (Z4 : Int) Z60 Z61; obtain ⟨Z67, rfl, Z68⟩ := k84_openM Z64; have Z69 : Z59.cell? ⟨Z22, (Z4 : Int).toNat * 3, none⟩ = some (.int .i64 ((rd_T84 Z10 Z4).f0)) := Z65 0 _ rfl; have Z70 : Z59.cell? ⟨Z22, (Z4 : Int).toNat * 3 + 1, none⟩ = some (.int .i64 ((rd_T84 Z10 Z4).f1)) := Z65 1 _ rfl; have Z71 : Z59.cell? ⟨Z22, (Z4 : Int).toNat * 3 + 2, none⟩ = some (Z67) := Z65 2 _ rfl; have Z72 : Z59.frozen? ⟨Z22, (Z4 : Int).toNat * 3, none⟩ = false := Z66 0; have Z73 : Z59.frozen? ⟨Z22, (Z4 : Int).toNat * 3 + 1, none⟩ = false := Z66 1; have Z74 : Z59.frozen? ⟨Z22, (Z4 : Int).toNat * 3 + 2, none⟩ = false := Z66 2; clear Z63 Z65 Z66 Z64; replace Z60 := eq_true Z60; replace Z61 := eq_true Z61; have Z75 := ra (show Kd.S k84 84 Z59 w0.heap.size (fun k_ => ((fun k_ => P0_ k_)) k_ ∧ ¬ ((fun _ => False)) k_) (.slice (some ⟨Z22, 0, none⟩) Z2.length Z18) Z10 from (by (with_reducible repeat (first | apply Kd.S_alloc | apply Kd.S_drewN | apply Kd.S_drew)); exact Kd.S_mono Z6.out (fun k_ hk => ⟨hk, fun e_ => e_⟩))); obtain ⟨Z76, Z77, Z78, Z79, Z80, Z81, Z82, Z83⟩ := Kd.S_elem Z75.out z84 (Z4 : Int) (od) (by have h_ : (Z4 : Int) < ((Z2.length : Int) : Int) := od; first | exact h_ | (have e_ := (Kd.S_reads' Z6.out).1; omega) | simpa using h_); obtain ⟨Z84, rfl, Z85⟩ := k84_openM Z79; have Z86 := Kd.S_seg Z83 (od) (by have h_ : (Z4 : Int) < ((Z2.length : Int) : Int) := od; first | exact h_ | (have e_ := (Kd.S_reads' Z6.out).1; omega) | simpa using h_) (seg := [.int .i64 (wrap64 (Z3 + 1))]) (j := 1) (show 2 ≤ 3 from by decide) (x' := (⟨(rd_T84 Z10 Z4).f0, wrap64 (Z3 + 1), (rd_T84 Z10 Z4).f2⟩ : S84)) (k84_mkM _ _ _ (⟨(rd_T84 Z10 Z4).f0, wrap64 (Z3 + 1), (rd_T84 Z10 Z4).f2⟩ : S84) (Kd.R_mono Z85 (fun _ h_ => Or.inl h_))) (fun _ hk => hk) (fun k_ hk_ => hk_.elim); have Z87 := Z80 1 _ rfl; (try simp only [show (k84).sz = 3 from rfl, Nat.mul_one, Nat.add_zero] at Z87); have Z88 := Z81 1; (try simp only [show (k84).sz = 3 from rfl, Nat.mul_one, Nat.add_zero] at Z88); clear Z78 Z80 Z81 Z79 Z82 Z83) | ((with_reducible refine gate_store (t := 3) (p := 23) rfl ?_); refine store_event (t := 3) (p := 23) (v := ?vo_w12) (w1 := (Z59.setCell ⟨Z22, (Z4 : Int).toNat * 3 + 1, none⟩ (.int .i64 (wrap64 (Z3 + 1))))) ?hg ?ho ?hn ?hr ?_; (case ho => rfl); (case hg => rfl); (case hn => rfl); (case hr => first | (go_simp; done) | (go_simp; rfl)); intro Z89 hw; have hg : Z59.grownBy Z89 (some Z22) := (by rw [hw]; exact Z86.2); have hp_ : Kd.S k84 84 Z89 w0.heap.size (fun k_ => P0_ k_) (.slice (some ⟨Z22, 0, none⟩) Z2.length Z18) Z12 := (by rw [hw, Z13.out]; exact Z86.1); clear Z86; replace HB := ra ((by rw [hw]; exact below_set (HB.out) Z29.out : Below w0.heap.size w0 Z89)); replace HK := ra (Kept.of_grown (S := (fun k_ => P0_ k_)) hg (by repeat (first | (with_reducible first | exact HK.out | apply Kept.alloc | apply Kept.drewN | apply Kept.drew) | exact HK.out)) (fun k_ e_ => .inl ((Kd.S_R Z6.out).1 k_ e_))); replace Z6 := ra (hp_); clear hg hw hp_; have Z90 : 0 ≤ (Z4 : Int) := od; have Z91 : Z4 < (Z12.length : Int) := (by have h_ : (Z4 : Int) < ((Z2.length : Int) : Int) := od; first | (have e_ := (Kd.S_reads' Z6.out).1; omega) | simpa only [Z11.out, Z13.out, List.length_set] using h_); have Z92 : ((Z4 : Int) < ((Z2.length : Int) : Int)) = True := eq_true (od); obtain ⟨Z93, Z94, Z95, Z96, Z97, Z98, Z99, Z100, Z101⟩ := at_T84 (Kd.S_reads' Z6.out).2.2 Z4 Z90 Z91; obtain rfl : (⟨Z22, 0, none⟩ : Addr) = Z93 := (by injection Z96); (first | simp only [add_plain] at Z97 | simp only [add_at] at Z97 | simp only [Addr.add, Nat.zero_add] at Z97 | skip); (first | simp only [add_plain] at Z98 | simp only [add_at] at Z98 | simp only [Addr.add, Nat.zero_add] at Z98 | skip); (first | simp only [add_plain] at Z99 | simp only [add_at] at Z99 | simp only [Addr.add, Nat.zero_add] at Z99 | skip); obtain ⟨okX, ceX, hclX, hMX, hccX, hfrX, hokX, hHX⟩ := Kd.S_elem Z6.out z84 Z4 Z90 (by first | exact Z91 | exact od | (have e_ := (Kd.S_reads' Z6.out).1; omega)); obtain ⟨veX, rfl, geX⟩ := k84_openM hMX; have hvX : veX = .slice Z94 ((rd_T84 Z12 Z4).f2).length Z95 := Option.some.inj ((hccX 2 _ rfl).symm.trans Z99); subst hvX; have HGX := ra geX; have HHX := ra hHX; have HOX := ra hokX; clear geX hHX hokX hclX hccX hfrX hMX; replace Z90 := eq_true Z90; replace Z91 := eq_true Z91) | ((with_reducible refine gc 89 rfl ?_); refine gy (some 32) Tryz.func89 (laws_markProbeSlotS.calls _ (fun k_ => some k_ = (.slice Z94 ((rd_T84 Z12 Z4).f2).length Z95 : Value).ownBlock) _ _ _ _ _ _ _ (by repeat (first | (with_reducible first | exact HB.out | apply below_alloc | apply pw_below_drewN | apply below_drew1) | exact HB.out)) (Kd.R_tight rfl HGX.out) Z16.out) ?_; rintro Z102 ⟨Z103, hb, hkp⟩; have _ := ra (Kd.H_back (Kd.H_kept HHX.out hkp (fun k_ hk_ hn_ hs_ => hn_ (HGX.out.1 k_ hs_.symm))) (k84_mkM _ _ _ (⟨(rd_T84 Z12 Z4).f0, (rd_T84 Z12 Z4).f1, Z15⟩ : S84) (Kd.R_reok rfl Z103 (fun k_ e_ => HGX.out.1 k_ e_))) (fun _ h_ => h_)); have _ := ra (Kept.then_ (S := (fun k_ => P0_ k_)) (HK.out) hkp (fun k_ hs_ => .inl (HOX.out k_ (HGX.out.1 k_ hs_.symm)).1)); have _ := ra hb; clear Z6 HK HB HHX HGX HOX Z103 hkp hb; rename_i Z6 HK HB))
    go_roundg Z7
    case measure => have := Z5.out; omega
    case rel => exact ⟨(Z12.set (Z4 : Int).toNat (⟨(rd_T84 Z12 Z4).f0, (rd_T84 Z12 Z4).f1, Z15⟩ : S84)), (Z14), (wrap64 (Z4 + 1)), rs, rs, H', ⟨by have := Z5.out; omega⟩, ⟨by (with_reducible repeat (first | apply Kd.S_alloc | apply Kd.S_drewN | apply Kd.S_drew)); exact Z6.out⟩, ⟨by repeat (first | (with_reducible first | exact HK.out | apply Kept.alloc | apply Kept.drewN | apply Kept.drew) | exact HK.out)⟩, ⟨bq⟩⟩
   ·simp only [Option.some.injEq, Prod.mk.injEq] at H
    obtain ⟨rfl, rfl⟩ := H
    obtain ⟨Z9, Z10, Z11⟩ := Kd.S_slice Z6.out
    subst Z11
    go_wp2
    go_ret
    exact ⟨re, by (with_reducible repeat (first | apply Kd.S_alloc | apply Kd.S_drewN | apply Kd.S_drew)); exact Z6.out, bq, by repeat (first | (with_reducible first | exact HK.out | apply Kept.alloc | apply Kept.drewN | apply Kept.drew) | exact HK.out)⟩
theorem laws_markProbeIndex.calls (k : Nat) (P0_0_ : Nat → Prop) (u9000_ : Value) (l0_0 : List (S84)) (a1 r1 : Int) (r2 : List (S84)) (w0 w : World) (hB : Below w0.heap.size w0 w) (ho0_0 : Kd.S k84 84 w w0.heap.size P0_0_ u9000_ l0_0) (h : laws_markProbeIndex.f k l0_0 a1 = some (r1, r2)) :
  Calls Tryz.prog 30 #[.agg #[u9000_], .int .i64 a1] w fun e w' => e = .returned (.int .i64 r1) ∧ Kd.S k84 84 w' w0.heap.size (fun k_ => (P0_0_ k_ ∨ w.heap.size ≤ k_)) u9000_ r2 ∧ Below w0.heap.size w0 w' ∧ Kept w w' (fun k_ => P0_0_ k_) := by
 have Z0 := Tryz.underlying28
 have Z1 := ra (show Kd.S k84 84 w w0.heap.size (fun k_ => P0_0_ k_) u9000_ l0_0 from ho0_0)
 have HK := ra (Kept.refl w (fun k_ => P0_0_ k_))
 have Z2 := Aside0.mk hB.size
 have HB := ra hB; clear hB
 have H := h; unfold laws_markProbeIndex.f at H
 clear h
 obtain ⟨⟨Z3, Z4⟩, Z5, H⟩ := bo H
 try dsimp only at H
 simp only [Option.some.injEq, Prod.mk.injEq] at H
 obtain ⟨rfl, rfl⟩ := H
 obtain ⟨Z6, Z7, Z8⟩ := Kd.S_slice Z1.out
 subst Z8
 go_enter Tryz.func30, Tryz.ntmps30
 go_wp2_with (first | ((with_reducible refine gd 2 rfl ?_); refine be 2 #[.slice Z6 l0_0.length Z7] 28 ?_; intro Z9 hg Z10 hbox hb; have Z11 := ra (hbox); have Z12 := ra ((by rw [hg]; exact (by first | exact HK.out.1 | exact (show Kept w _ (fun k_ => P0_0_ k_) from by repeat (first | (with_reducible first | exact HK.out | apply Kept.alloc | apply Kept.drewN | apply Kept.drew) | exact HK.out)).1) : w.heap.size ≤ Z9)); have Z13 := ra ((by rw [hg]; exact (below_size bq) : w0.heap.size ≤ Z9)); replace Z1 := ra (Kd.S_below (by (with_reducible repeat (first | apply Kd.S_alloc | apply Kd.S_drewN | apply Kd.S_drew)); exact Z1.out) hb); replace HK := ra (Kept.below (S := (fun k_ => P0_0_ k_)) (by repeat (first | (with_reducible first | exact HK.out | apply Kept.alloc | apply Kept.drewN | apply Kept.drew) | exact HK.out)) hb); replace HB := bs hb; clear hb hbox hg; obtain ⟨Z14, Z15⟩ := zc1 Z11) | ((with_reducible refine gc 64 rfl ?_); refine gy (some 8) Tryz.func64 (laws_markProbeCellS.calls _ _ _ _ _ _ _ _ _ (by repeat (first | (with_reducible first | exact HB.out | apply below_alloc | apply pw_below_drewN | apply below_drew1 | refine below_set ?_ Z13.out) | exact HB.out)) (Z.S_typ Z1.out) Z5.out) ?_; rintro Z16 ⟨Z17, hb, hkp⟩; replace Z1 := ra (Kd.S_mono (ok' := fun k_ => (P0_0_ k_ ∨ w.heap.size ≤ k_)) Z17 (fun k_ hk => .inl hk.1)); replace Z11 := ra (Z.blk_keptT (bk Z11) hkp (by decide)); replace HK := ra (Kept.then_ (S := (fun k_ => P0_0_ k_)) (by repeat (first | (with_reducible first | exact HK.out | apply Kept.alloc | apply Kept.drewN | apply Kept.drew | refine Kept.setCell ?_ (.inr Z12.out) _) | exact HK.out)) hkp (fun k_ hs_ => .inl hs_.1)); replace HB := ra (hb); clear hb hkp Z17))
 go_ret
 exact ⟨re, by (with_reducible repeat (first | apply Kd.S_alloc | apply Kd.S_drewN | apply Kd.S_drew)); exact Z1.out, bq, by repeat (first | (with_reducible first | exact HK.out | apply Kept.alloc | apply Kept.drewN | apply Kept.drew | refine Kept.setCell ?_ (.inr Z12.out) _) | exact HK.out)⟩
def laws_heldProbeSlotS.T16 : Bool × List (List Nat × List Nat) := (true, [([], []), ([], []), ([0, 1], [0, 1]), ([2], [2]), ([3], [3]), ([], []), ([5], [5]), ([4, 6], [4, 6])])
def laws_heldProbeSlotS.B16 : List Nat := [0, 0, 3, 7, 15, 0, 32, 127]
theorem laws_heldProbeSlotS.tab16 : rtab .any (opsOf Tryz.f90 16) = laws_heldProbeSlotS.T16 := by kernel_rfl
theorem laws_heldProbeSlotS.bits16 : waitsOk laws_heldProbeSlotS.T16.2 laws_heldProbeSlotS.B16 = true := by kernel_rfl
theorem laws_heldProbeSlotS.calls (k : Nat) (A0 : Option Addr) (c0 : Nat) (l0 : List (S80)) (a1 r : Int) (w : World) (hr0 : Kd.C k80 w A0 l0.length l0) (hc0 : l0.length ≤ c0) (h : laws_heldProbeSlotS.f k l0 a1 = some r) :
  Calls Tryz.prog 90 #[.slice A0 l0.length c0, .int .i64 a1] w fun e w' => e = .returned (.int .i64 r) ∧ Below w.heap.size w w' := by
 have HR0 := ra hr0
 have HC0 := ra hc0
 clear hr0 hc0
 have HB := ra (Below.refl w.heap.size w)
 have H := h; unfold laws_heldProbeSlotS.f at H
 clear h
 have H' := ra H; clear H
 go_enter Tryz.func90, Tryz.ntmps90
 go_wp2
 go_loopg [1, 5] k (fun kq v1 v5 w' => ∃ (x1_1 : Int) (x5_1 : Int), v1 = .int .i64 x1_1 ∧ v5 = .int .i64 x5_1 ∧ Aside0 (laws_heldProbeSlotS.l0 kq l0 x1_1 x5_1 = some r) ∧ Aside0 (kq ≤ k) ∧ Aside0 (Below w.heap.size w w'))
 case atStart => exact ⟨(a1), (0), rs, rs, H', ⟨Nat.le_refl _⟩, ⟨bq⟩⟩
 case round =>
  clear H'
  obtain ⟨x1_1, x5_1, rfl, rfl, HA, HK1, HB⟩ := hrel
  cases gk with
  | zero => exact absurd HA.out (by simp [laws_heldProbeSlotS.l0])
  | succ k1 =>
   have H := HA.out
   clear HA
   simp only [laws_heldProbeSlotS.l0] at H
   rcases td H with ⟨c3b0, H⟩ | ⟨c3b0, H⟩
   ·obtain ⟨c4b0, H⟩ := tn H
    rcases ed H with ⟨-, c5b0, c5b1, H⟩ | ⟨c5, c5b0, c5b1, H⟩
    ·rcases ed H with ⟨-, c6b0, c6b1, H⟩ | ⟨c6, c6b0, c6b1, H⟩
     ·rcases ed H with ⟨-, c7b0, c7b1, H⟩ | ⟨c7, c7b0, c7b1, H⟩
      ·rcases ed H with ⟨-, c8b0, c8b1, H⟩ | ⟨c8, c8b0, c8b1, H⟩
       ·obtain ⟨t1062, A9, H⟩ := bo H
        rcases ed H with ⟨-, c10b0, c10b1, H⟩ | ⟨c10, c10b0, c10b1, H⟩
        ·rcases ed H with ⟨-, c11b0, c11b1, H⟩ | ⟨c11, c11b0, c11b1, H⟩
         ·have H' := ra H; clear H
          have p1057 : 0 ≤ (x5_1 : Int) := od
          have q1057 : x5_1 < (l0.length : Int) := od
          obtain ⟨ad1057, e1057, hx1057_0, hx1057_1, hx1057_2, hx1057_3, hx1057_4, hx1057_5⟩ := at_T80 HR0.out x5_1 p1057 q1057
          cases e1057
          replace hx1057_0 := hc HB hx1057_0
          replace hx1057_1 := hc HB hx1057_1
          replace hx1057_2 := hc HB hx1057_2
          replace hx1057_3 := hc HB hx1057_3
          replace hx1057_4 := hc HB hx1057_4
          replace hx1057_5 := hc HB hx1057_5
          replace p1057 := eq_true p1057
          replace q1057 := eq_true q1057
          have p1058 : 0 ≤ (x5_1 : Int) := od
          have q1058 : x5_1 < (l0.length : Int) := od
          obtain ⟨ad1058, e1058, hx1058_0, hx1058_1, hx1058_2, hx1058_3, hx1058_4, hx1058_5⟩ := at_T80 HR0.out x5_1 p1058 q1058
          obtain rfl : ad1057 = ad1058 := (by injection e1058)
          replace hx1058_0 := hc HB hx1058_0
          replace hx1058_1 := hc HB hx1058_1
          replace hx1058_2 := hc HB hx1058_2
          replace hx1058_3 := hc HB hx1058_3
          replace hx1058_4 := hc HB hx1058_4
          replace hx1058_5 := hc HB hx1058_5
          replace p1058 := eq_true p1058
          replace q1058 := eq_true q1058
          have p1059 : 0 ≤ (x5_1 : Int) := od
          have q1059 : x5_1 < (l0.length : Int) := od
          obtain ⟨ad1059, e1059, hx1059_0, hx1059_1, hx1059_2, hx1059_3, hx1059_4, hx1059_5⟩ := at_T80 HR0.out x5_1 p1059 q1059
          obtain rfl : ad1057 = ad1059 := (by injection e1059)
          replace hx1059_0 := hc HB hx1059_0
          replace hx1059_1 := hc HB hx1059_1
          replace hx1059_2 := hc HB hx1059_2
          replace hx1059_3 := hc HB hx1059_3
          replace hx1059_4 := hc HB hx1059_4
          replace hx1059_5 := hc HB hx1059_5
          replace p1059 := eq_true p1059
          replace q1059 := eq_true q1059
          have p1060 : 0 ≤ (x5_1 : Int) := od
          have q1060 : x5_1 < (l0.length : Int) := od
          obtain ⟨ad1060, e1060, hx1060_0, hx1060_1, hx1060_2, hx1060_3, hx1060_4, hx1060_5⟩ := at_T80 HR0.out x5_1 p1060 q1060
          obtain rfl : ad1057 = ad1060 := (by injection e1060)
          replace hx1060_0 := hc HB hx1060_0
          replace hx1060_1 := hc HB hx1060_1
          replace hx1060_2 := hc HB hx1060_2
          replace hx1060_3 := hc HB hx1060_3
          replace hx1060_4 := hc HB hx1060_4
          replace hx1060_5 := hc HB hx1060_5
          replace p1060 := eq_true p1060
          replace q1060 := eq_true q1060
          try go_wp2
          have _ := ra (below_drew1 HB.out)
          clear HB
          rename_i HB
          have p1061 : 0 ≤ (x5_1 : Int) := od
          have q1061 : x5_1 < (l0.length : Int) := od
          obtain ⟨ad1061, e1061, hx1061_0, hx1061_1, hx1061_2, hx1061_3, hx1061_4, hx1061_5⟩ := at_T80 HR0.out x5_1 p1061 q1061
          have hw1061_5 := hx1061_5
          have hw1061_4 := hx1061_4
          have hw1061_3 := hx1061_3
          have hw1061_2 := hx1061_2
          have hw1061_1 := hx1061_1
          have hw1061_0 := hx1061_0
          obtain rfl : ad1057 = ad1061 := (by injection e1061)
          replace hx1061_0 := hc HB hx1061_0
          replace hx1061_1 := hc HB hx1061_1
          replace hx1061_2 := hc HB hx1061_2
          replace hx1061_3 := hc HB hx1061_3
          replace hx1061_4 := hc HB hx1061_4
          replace hx1061_5 := hc HB hx1061_5
          replace p1061 := eq_true p1061
          replace q1061 := eq_true q1061
          refine start_ (n := 8) (S := fun w' => w'.cell? (ad1057.add ((x5_1).toNat * 6)) = some (.int .i64 ((rd_T80 l0 x5_1).f0)) ∧ w'.cell? ⟨(ad1057.add ((x5_1).toNat * 6)).block, (ad1057.add ((x5_1).toNat * 6)).off + 1, none⟩ = some (.int .i64 ((rd_T80 l0 x5_1).f1)) ∧ w'.cell? ⟨(ad1057.add ((x5_1).toNat * 6)).block, (ad1057.add ((x5_1).toNat * 6)).off + 2, none⟩ = some (.int .i64 ((rd_T80 l0 x5_1).f2)) ∧ w'.cell? ⟨(ad1057.add ((x5_1).toNat * 6)).block, (ad1057.add ((x5_1).toNat * 6)).off + 3, none⟩ = some (.int .i64 ((rd_T80 l0 x5_1).f3)) ∧ w'.cell? ⟨(ad1057.add ((x5_1).toNat * 6)).block, (ad1057.add ((x5_1).toNat * 6)).off + 4, none⟩ = some (.string ((rd_T80 l0 x5_1).f4)) ∧ w'.cell? ⟨(ad1057.add ((x5_1).toNat * 6)).block, (ad1057.add ((x5_1).toNat * 6)).off + 5, none⟩ = some (.int .i64 ((rd_T80 l0 x5_1).f5))) (ds := []) (bl 8 0) (by kernel_rfl) rfl rfl ⟨(hc HB hw1061_0), (hc HB hw1061_1), (hc HB hw1061_2), (hc HB hw1061_3), (hc HB hw1061_4), (hc HB hw1061_5)⟩ (fun hHeld => ?_); refine with_tabW laws_heldProbeSlotS.tab16 laws_heldProbeSlotS.bits16 (fun HT_ HW_ => ?_)
          generalize wr.drew = w12 at HB hx1061_0 hx1061_1 hx1061_2 hx1061_3 hx1061_4 hx1061_5 hHeld ⊢
          refine pu 0 48 (bl 8 1) ?_
          refine pu 1 49 (bl 8 3) ?_
          refine pu 2 50 (bl 8 7) ?_
          refine pu 3 51 (bl 8 15) ?_
          refine pu 5 53 (bl 8 47) ?_
          refine tk 4 52 (bl 8 63) ?_ hHeld
          refine oe 6 54 (bl 8 127) (fun K hK => ?_)
          refine gs Tryz.func65 #[.int .i64 (wrap64 ((wrap64 ((wrap64 ((wrap64 (x1_1 + 1)) + 1)) + 1)) + 1))] ?_
          with_reducible refine (laws_markText.calls k1 (wrap64 ((wrap64 ((wrap64 ((wrap64 (x1_1 + 1)) + 1)) + 1)) + 1)) t1062 _ A9.out).mono ?_
          rintro e w13 ⟨rfl, hb⟩
          refine ⟨_, rfl, ?_⟩
          have _ := bs hb
          clear HB
          rename_i HB
          (try clear hb)
          refine hK.out _ _ ⟨(hc HB hw1061_0), (hc HB hw1061_1), (hc HB hw1061_2), (hc HB hw1061_3), (hc HB hw1061_4), (hc HB hw1061_5)⟩ (fun hHeld => ?_)
          clear hK K
          refine nm 54 ?_
          refine pu 7 55 (bl 8 255) ?_
          refine done_ (done_of HT_.out (by kernel_rfl)) ?_
          have p1063 : 0 ≤ (x5_1 : Int) := od
          have q1063 : x5_1 < (l0.length : Int) := od
          obtain ⟨ad1063, e1063, hx1063_0, hx1063_1, hx1063_2, hx1063_3, hx1063_4, hx1063_5⟩ := at_T80 HR0.out x5_1 p1063 q1063
          obtain rfl : ad1057 = ad1063 := (by injection e1063)
          replace hx1063_0 := hc HB hx1063_0
          replace hx1063_1 := hc HB hx1063_1
          replace hx1063_2 := hc HB hx1063_2
          replace hx1063_3 := hc HB hx1063_3
          replace hx1063_4 := hc HB hx1063_4
          replace hx1063_5 := hc HB hx1063_5
          replace p1063 := eq_true p1063
          replace q1063 := eq_true q1063
          try go_wp2
          go_roundg k1
          case measure => have := HK1.out; omega
          case rel => exact ⟨(wrap64 ((wrap64 ((wrap64 ((wrap64 ((wrap64 ((wrap64 (x1_1 + 1)) + 1)) + 1)) + 1)) + 1)) + 1)), (wrap64 (x5_1 + 1)), rs, rs, H', ⟨by have := HK1.out; omega⟩, ⟨bq⟩⟩
         ·obtain rfl := Option.some.inj H
          have p1057 : 0 ≤ (x5_1 : Int) := od
          have q1057 : x5_1 < (l0.length : Int) := od
          obtain ⟨ad1057, e1057, hx1057_0, hx1057_1, hx1057_2, hx1057_3, hx1057_4, hx1057_5⟩ := at_T80 HR0.out x5_1 p1057 q1057
          cases e1057
          replace hx1057_0 := hc HB hx1057_0
          replace hx1057_1 := hc HB hx1057_1
          replace hx1057_2 := hc HB hx1057_2
          replace hx1057_3 := hc HB hx1057_3
          replace hx1057_4 := hc HB hx1057_4
          replace hx1057_5 := hc HB hx1057_5
          replace p1057 := eq_true p1057
          replace q1057 := eq_true q1057
          have p1058 : 0 ≤ (x5_1 : Int) := od
          have q1058 : x5_1 < (l0.length : Int) := od
          obtain ⟨ad1058, e1058, hx1058_0, hx1058_1, hx1058_2, hx1058_3, hx1058_4, hx1058_5⟩ := at_T80 HR0.out x5_1 p1058 q1058
          obtain rfl : ad1057 = ad1058 := (by injection e1058)
          replace hx1058_0 := hc HB hx1058_0
          replace hx1058_1 := hc HB hx1058_1
          replace hx1058_2 := hc HB hx1058_2
          replace hx1058_3 := hc HB hx1058_3
          replace hx1058_4 := hc HB hx1058_4
          replace hx1058_5 := hc HB hx1058_5
          replace p1058 := eq_true p1058
          replace q1058 := eq_true q1058
          have p1059 : 0 ≤ (x5_1 : Int) := od
          have q1059 : x5_1 < (l0.length : Int) := od
          obtain ⟨ad1059, e1059, hx1059_0, hx1059_1, hx1059_2, hx1059_3, hx1059_4, hx1059_5⟩ := at_T80 HR0.out x5_1 p1059 q1059
          obtain rfl : ad1057 = ad1059 := (by injection e1059)
          replace hx1059_0 := hc HB hx1059_0
          replace hx1059_1 := hc HB hx1059_1
          replace hx1059_2 := hc HB hx1059_2
          replace hx1059_3 := hc HB hx1059_3
          replace hx1059_4 := hc HB hx1059_4
          replace hx1059_5 := hc HB hx1059_5
          replace p1059 := eq_true p1059
          replace q1059 := eq_true q1059
          have p1060 : 0 ≤ (x5_1 : Int) := od
          have q1060 : x5_1 < (l0.length : Int) := od
          obtain ⟨ad1060, e1060, hx1060_0, hx1060_1, hx1060_2, hx1060_3, hx1060_4, hx1060_5⟩ := at_T80 HR0.out x5_1 p1060 q1060
          obtain rfl : ad1057 = ad1060 := (by injection e1060)
          replace hx1060_0 := hc HB hx1060_0
          replace hx1060_1 := hc HB hx1060_1
          replace hx1060_2 := hc HB hx1060_2
          replace hx1060_3 := hc HB hx1060_3
          replace hx1060_4 := hc HB hx1060_4
          replace hx1060_5 := hc HB hx1060_5
          replace p1060 := eq_true p1060
          replace q1060 := eq_true q1060
          try go_wp2
          have _ := ra (below_drew1 HB.out)
          clear HB
          rename_i HB
          have p1061 : 0 ≤ (x5_1 : Int) := od
          have q1061 : x5_1 < (l0.length : Int) := od
          obtain ⟨ad1061, e1061, hx1061_0, hx1061_1, hx1061_2, hx1061_3, hx1061_4, hx1061_5⟩ := at_T80 HR0.out x5_1 p1061 q1061
          have hw1061_5 := hx1061_5
          have hw1061_4 := hx1061_4
          have hw1061_3 := hx1061_3
          have hw1061_2 := hx1061_2
          have hw1061_1 := hx1061_1
          have hw1061_0 := hx1061_0
          obtain rfl : ad1057 = ad1061 := (by injection e1061)
          replace hx1061_0 := hc HB hx1061_0
          replace hx1061_1 := hc HB hx1061_1
          replace hx1061_2 := hc HB hx1061_2
          replace hx1061_3 := hc HB hx1061_3
          replace hx1061_4 := hc HB hx1061_4
          replace hx1061_5 := hc HB hx1061_5
          replace p1061 := eq_true p1061
          replace q1061 := eq_true q1061
          refine start_ (n := 8) (S := fun w' => w'.cell? (ad1057.add ((x5_1).toNat * 6)) = some (.int .i64 ((rd_T80 l0 x5_1).f0)) ∧ w'.cell? ⟨(ad1057.add ((x5_1).toNat * 6)).block, (ad1057.add ((x5_1).toNat * 6)).off + 1, none⟩ = some (.int .i64 ((rd_T80 l0 x5_1).f1)) ∧ w'.cell? ⟨(ad1057.add ((x5_1).toNat * 6)).block, (ad1057.add ((x5_1).toNat * 6)).off + 2, none⟩ = some (.int .i64 ((rd_T80 l0 x5_1).f2)) ∧ w'.cell? ⟨(ad1057.add ((x5_1).toNat * 6)).block, (ad1057.add ((x5_1).toNat * 6)).off + 3, none⟩ = some (.int .i64 ((rd_T80 l0 x5_1).f3)) ∧ w'.cell? ⟨(ad1057.add ((x5_1).toNat * 6)).block, (ad1057.add ((x5_1).toNat * 6)).off + 4, none⟩ = some (.string ((rd_T80 l0 x5_1).f4)) ∧ w'.cell? ⟨(ad1057.add ((x5_1).toNat * 6)).block, (ad1057.add ((x5_1).toNat * 6)).off + 5, none⟩ = some (.int .i64 ((rd_T80 l0 x5_1).f5))) (ds := []) (bl 8 0) (by kernel_rfl) rfl rfl ⟨(hc HB hw1061_0), (hc HB hw1061_1), (hc HB hw1061_2), (hc HB hw1061_3), (hc HB hw1061_4), (hc HB hw1061_5)⟩ (fun hHeld => ?_); refine with_tabW laws_heldProbeSlotS.tab16 laws_heldProbeSlotS.bits16 (fun HT_ HW_ => ?_)
          generalize wr.drew = w14 at HB hx1061_0 hx1061_1 hx1061_2 hx1061_3 hx1061_4 hx1061_5 hHeld ⊢
          refine pu 0 48 (bl 8 1) ?_
          refine pu 1 49 (bl 8 3) ?_
          refine pu 2 50 (bl 8 7) ?_
          refine pu 3 51 (bl 8 15) ?_
          refine pu 5 53 (bl 8 47) ?_
          refine tk 4 52 (bl 8 63) ?_ hHeld
          refine oe 6 54 (bl 8 127) (fun K hK => ?_)
          refine gs Tryz.func65 #[.int .i64 (wrap64 ((wrap64 ((wrap64 ((wrap64 (x1_1 + 1)) + 1)) + 1)) + 1))] ?_
          with_reducible refine (laws_markText.calls k1 (wrap64 ((wrap64 ((wrap64 ((wrap64 (x1_1 + 1)) + 1)) + 1)) + 1)) t1062 _ A9.out).mono ?_
          rintro e w15 ⟨rfl, hb⟩
          refine ⟨_, rfl, ?_⟩
          have _ := bs hb
          clear HB
          rename_i HB
          (try clear hb)
          refine hK.out _ _ ⟨(hc HB hw1061_0), (hc HB hw1061_1), (hc HB hw1061_2), (hc HB hw1061_3), (hc HB hw1061_4), (hc HB hw1061_5)⟩ (fun hHeld => ?_)
          clear hK K
          refine nm 54 ?_
          refine pu 7 55 (bl 8 255) ?_
          refine done_ (done_of HT_.out (by kernel_rfl)) ?_
          have p1063 : 0 ≤ (x5_1 : Int) := od
          have q1063 : x5_1 < (l0.length : Int) := od
          obtain ⟨ad1063, e1063, hx1063_0, hx1063_1, hx1063_2, hx1063_3, hx1063_4, hx1063_5⟩ := at_T80 HR0.out x5_1 p1063 q1063
          obtain rfl : ad1057 = ad1063 := (by injection e1063)
          replace hx1063_0 := hc HB hx1063_0
          replace hx1063_1 := hc HB hx1063_1
          replace hx1063_2 := hc HB hx1063_2
          replace hx1063_3 := hc HB hx1063_3
          replace hx1063_4 := hc HB hx1063_4
          replace hx1063_5 := hc HB hx1063_5
          replace p1063 := eq_true p1063
          replace q1063 := eq_true q1063
          try go_wp2
          go_ret
          exact ⟨re, bq⟩
        ·obtain rfl := Option.some.inj H
         have p1057 : 0 ≤ (x5_1 : Int) := od
         have q1057 : x5_1 < (l0.length : Int) := od
         obtain ⟨ad1057, e1057, hx1057_0, hx1057_1, hx1057_2, hx1057_3, hx1057_4, hx1057_5⟩ := at_T80 HR0.out x5_1 p1057 q1057
         cases e1057
         replace hx1057_0 := hc HB hx1057_0
         replace hx1057_1 := hc HB hx1057_1
         replace hx1057_2 := hc HB hx1057_2
         replace hx1057_3 := hc HB hx1057_3
         replace hx1057_4 := hc HB hx1057_4
         replace hx1057_5 := hc HB hx1057_5
         replace p1057 := eq_true p1057
         replace q1057 := eq_true q1057
         have p1058 : 0 ≤ (x5_1 : Int) := od
         have q1058 : x5_1 < (l0.length : Int) := od
         obtain ⟨ad1058, e1058, hx1058_0, hx1058_1, hx1058_2, hx1058_3, hx1058_4, hx1058_5⟩ := at_T80 HR0.out x5_1 p1058 q1058
         obtain rfl : ad1057 = ad1058 := (by injection e1058)
         replace hx1058_0 := hc HB hx1058_0
         replace hx1058_1 := hc HB hx1058_1
         replace hx1058_2 := hc HB hx1058_2
         replace hx1058_3 := hc HB hx1058_3
         replace hx1058_4 := hc HB hx1058_4
         replace hx1058_5 := hc HB hx1058_5
         replace p1058 := eq_true p1058
         replace q1058 := eq_true q1058
         have p1059 : 0 ≤ (x5_1 : Int) := od
         have q1059 : x5_1 < (l0.length : Int) := od
         obtain ⟨ad1059, e1059, hx1059_0, hx1059_1, hx1059_2, hx1059_3, hx1059_4, hx1059_5⟩ := at_T80 HR0.out x5_1 p1059 q1059
         obtain rfl : ad1057 = ad1059 := (by injection e1059)
         replace hx1059_0 := hc HB hx1059_0
         replace hx1059_1 := hc HB hx1059_1
         replace hx1059_2 := hc HB hx1059_2
         replace hx1059_3 := hc HB hx1059_3
         replace hx1059_4 := hc HB hx1059_4
         replace hx1059_5 := hc HB hx1059_5
         replace p1059 := eq_true p1059
         replace q1059 := eq_true q1059
         have p1060 : 0 ≤ (x5_1 : Int) := od
         have q1060 : x5_1 < (l0.length : Int) := od
         obtain ⟨ad1060, e1060, hx1060_0, hx1060_1, hx1060_2, hx1060_3, hx1060_4, hx1060_5⟩ := at_T80 HR0.out x5_1 p1060 q1060
         obtain rfl : ad1057 = ad1060 := (by injection e1060)
         replace hx1060_0 := hc HB hx1060_0
         replace hx1060_1 := hc HB hx1060_1
         replace hx1060_2 := hc HB hx1060_2
         replace hx1060_3 := hc HB hx1060_3
         replace hx1060_4 := hc HB hx1060_4
         replace hx1060_5 := hc HB hx1060_5
         replace p1060 := eq_true p1060
         replace q1060 := eq_true q1060
         try go_wp2
         have _ := ra (below_drew1 HB.out)
         clear HB
         rename_i HB
         have p1061 : 0 ≤ (x5_1 : Int) := od
         have q1061 : x5_1 < (l0.length : Int) := od
         obtain ⟨ad1061, e1061, hx1061_0, hx1061_1, hx1061_2, hx1061_3, hx1061_4, hx1061_5⟩ := at_T80 HR0.out x5_1 p1061 q1061
         have hw1061_5 := hx1061_5
         have hw1061_4 := hx1061_4
         have hw1061_3 := hx1061_3
         have hw1061_2 := hx1061_2
         have hw1061_1 := hx1061_1
         have hw1061_0 := hx1061_0
         obtain rfl : ad1057 = ad1061 := (by injection e1061)
         replace hx1061_0 := hc HB hx1061_0
         replace hx1061_1 := hc HB hx1061_1
         replace hx1061_2 := hc HB hx1061_2
         replace hx1061_3 := hc HB hx1061_3
         replace hx1061_4 := hc HB hx1061_4
         replace hx1061_5 := hc HB hx1061_5
         replace p1061 := eq_true p1061
         replace q1061 := eq_true q1061
         refine start_ (n := 8) (S := fun w' => w'.cell? (ad1057.add ((x5_1).toNat * 6)) = some (.int .i64 ((rd_T80 l0 x5_1).f0)) ∧ w'.cell? ⟨(ad1057.add ((x5_1).toNat * 6)).block, (ad1057.add ((x5_1).toNat * 6)).off + 1, none⟩ = some (.int .i64 ((rd_T80 l0 x5_1).f1)) ∧ w'.cell? ⟨(ad1057.add ((x5_1).toNat * 6)).block, (ad1057.add ((x5_1).toNat * 6)).off + 2, none⟩ = some (.int .i64 ((rd_T80 l0 x5_1).f2)) ∧ w'.cell? ⟨(ad1057.add ((x5_1).toNat * 6)).block, (ad1057.add ((x5_1).toNat * 6)).off + 3, none⟩ = some (.int .i64 ((rd_T80 l0 x5_1).f3)) ∧ w'.cell? ⟨(ad1057.add ((x5_1).toNat * 6)).block, (ad1057.add ((x5_1).toNat * 6)).off + 4, none⟩ = some (.string ((rd_T80 l0 x5_1).f4)) ∧ w'.cell? ⟨(ad1057.add ((x5_1).toNat * 6)).block, (ad1057.add ((x5_1).toNat * 6)).off + 5, none⟩ = some (.int .i64 ((rd_T80 l0 x5_1).f5))) (ds := []) (bl 8 0) (by kernel_rfl) rfl rfl ⟨(hc HB hw1061_0), (hc HB hw1061_1), (hc HB hw1061_2), (hc HB hw1061_3), (hc HB hw1061_4), (hc HB hw1061_5)⟩ (fun hHeld => ?_); refine with_tabW laws_heldProbeSlotS.tab16 laws_heldProbeSlotS.bits16 (fun HT_ HW_ => ?_)
         generalize wr.drew = w16 at HB hx1061_0 hx1061_1 hx1061_2 hx1061_3 hx1061_4 hx1061_5 hHeld ⊢
         refine pu 0 48 (bl 8 1) ?_
         refine pu 1 49 (bl 8 3) ?_
         refine pu 2 50 (bl 8 7) ?_
         refine pu 3 51 (bl 8 15) ?_
         refine pu 5 53 (bl 8 47) ?_
         refine tk 4 52 (bl 8 63) ?_ hHeld
         refine oe 6 54 (bl 8 127) (fun K hK => ?_)
         refine gs Tryz.func65 #[.int .i64 (wrap64 ((wrap64 ((wrap64 ((wrap64 (x1_1 + 1)) + 1)) + 1)) + 1))] ?_
         with_reducible refine (laws_markText.calls k1 (wrap64 ((wrap64 ((wrap64 ((wrap64 (x1_1 + 1)) + 1)) + 1)) + 1)) t1062 _ A9.out).mono ?_
         rintro e w17 ⟨rfl, hb⟩
         refine ⟨_, rfl, ?_⟩
         have _ := bs hb
         clear HB
         rename_i HB
         (try clear hb)
         refine hK.out _ _ ⟨(hc HB hw1061_0), (hc HB hw1061_1), (hc HB hw1061_2), (hc HB hw1061_3), (hc HB hw1061_4), (hc HB hw1061_5)⟩ (fun hHeld => ?_)
         clear hK K
         refine nm 54 ?_
         refine pu 7 55 (bl 8 255) ?_
         refine done_ (done_of HT_.out (by kernel_rfl)) ?_
         try go_wp2
         go_ret
         exact ⟨re, bq⟩
       ·obtain rfl := Option.some.inj H
        have p1057 : 0 ≤ (x5_1 : Int) := od
        have q1057 : x5_1 < (l0.length : Int) := od
        obtain ⟨ad1057, e1057, hx1057_0, hx1057_1, hx1057_2, hx1057_3, hx1057_4, hx1057_5⟩ := at_T80 HR0.out x5_1 p1057 q1057
        cases e1057
        replace hx1057_0 := hc HB hx1057_0
        replace hx1057_1 := hc HB hx1057_1
        replace hx1057_2 := hc HB hx1057_2
        replace hx1057_3 := hc HB hx1057_3
        replace hx1057_4 := hc HB hx1057_4
        replace hx1057_5 := hc HB hx1057_5
        replace p1057 := eq_true p1057
        replace q1057 := eq_true q1057
        have p1058 : 0 ≤ (x5_1 : Int) := od
        have q1058 : x5_1 < (l0.length : Int) := od
        obtain ⟨ad1058, e1058, hx1058_0, hx1058_1, hx1058_2, hx1058_3, hx1058_4, hx1058_5⟩ := at_T80 HR0.out x5_1 p1058 q1058
        obtain rfl : ad1057 = ad1058 := (by injection e1058)
        replace hx1058_0 := hc HB hx1058_0
        replace hx1058_1 := hc HB hx1058_1
        replace hx1058_2 := hc HB hx1058_2
        replace hx1058_3 := hc HB hx1058_3
        replace hx1058_4 := hc HB hx1058_4
        replace hx1058_5 := hc HB hx1058_5
        replace p1058 := eq_true p1058
        replace q1058 := eq_true q1058
        have p1059 : 0 ≤ (x5_1 : Int) := od
        have q1059 : x5_1 < (l0.length : Int) := od
        obtain ⟨ad1059, e1059, hx1059_0, hx1059_1, hx1059_2, hx1059_3, hx1059_4, hx1059_5⟩ := at_T80 HR0.out x5_1 p1059 q1059
        obtain rfl : ad1057 = ad1059 := (by injection e1059)
        replace hx1059_0 := hc HB hx1059_0
        replace hx1059_1 := hc HB hx1059_1
        replace hx1059_2 := hc HB hx1059_2
        replace hx1059_3 := hc HB hx1059_3
        replace hx1059_4 := hc HB hx1059_4
        replace hx1059_5 := hc HB hx1059_5
        replace p1059 := eq_true p1059
        replace q1059 := eq_true q1059
        have p1060 : 0 ≤ (x5_1 : Int) := od
        have q1060 : x5_1 < (l0.length : Int) := od
        obtain ⟨ad1060, e1060, hx1060_0, hx1060_1, hx1060_2, hx1060_3, hx1060_4, hx1060_5⟩ := at_T80 HR0.out x5_1 p1060 q1060
        obtain rfl : ad1057 = ad1060 := (by injection e1060)
        replace hx1060_0 := hc HB hx1060_0
        replace hx1060_1 := hc HB hx1060_1
        replace hx1060_2 := hc HB hx1060_2
        replace hx1060_3 := hc HB hx1060_3
        replace hx1060_4 := hc HB hx1060_4
        replace hx1060_5 := hc HB hx1060_5
        replace p1060 := eq_true p1060
        replace q1060 := eq_true q1060
        go_wp2
        go_ret
        exact ⟨re, bq⟩
      ·obtain rfl := Option.some.inj H
       have p1057 : 0 ≤ (x5_1 : Int) := od
       have q1057 : x5_1 < (l0.length : Int) := od
       obtain ⟨ad1057, e1057, hx1057_0, hx1057_1, hx1057_2, hx1057_3, hx1057_4, hx1057_5⟩ := at_T80 HR0.out x5_1 p1057 q1057
       cases e1057
       replace hx1057_0 := hc HB hx1057_0
       replace hx1057_1 := hc HB hx1057_1
       replace hx1057_2 := hc HB hx1057_2
       replace hx1057_3 := hc HB hx1057_3
       replace hx1057_4 := hc HB hx1057_4
       replace hx1057_5 := hc HB hx1057_5
       replace p1057 := eq_true p1057
       replace q1057 := eq_true q1057
       have p1058 : 0 ≤ (x5_1 : Int) := od
       have q1058 : x5_1 < (l0.length : Int) := od
       obtain ⟨ad1058, e1058, hx1058_0, hx1058_1, hx1058_2, hx1058_3, hx1058_4, hx1058_5⟩ := at_T80 HR0.out x5_1 p1058 q1058
       obtain rfl : ad1057 = ad1058 := (by injection e1058)
       replace hx1058_0 := hc HB hx1058_0
       replace hx1058_1 := hc HB hx1058_1
       replace hx1058_2 := hc HB hx1058_2
       replace hx1058_3 := hc HB hx1058_3
       replace hx1058_4 := hc HB hx1058_4
       replace hx1058_5 := hc HB hx1058_5
       replace p1058 := eq_true p1058
       replace q1058 := eq_true q1058
       have p1059 : 0 ≤ (x5_1 : Int) := od
       have q1059 : x5_1 < (l0.length : Int) := od
       obtain ⟨ad1059, e1059, hx1059_0, hx1059_1, hx1059_2, hx1059_3, hx1059_4, hx1059_5⟩ := at_T80 HR0.out x5_1 p1059 q1059
       obtain rfl : ad1057 = ad1059 := (by injection e1059)
       replace hx1059_0 := hc HB hx1059_0
       replace hx1059_1 := hc HB hx1059_1
       replace hx1059_2 := hc HB hx1059_2
       replace hx1059_3 := hc HB hx1059_3
       replace hx1059_4 := hc HB hx1059_4
       replace hx1059_5 := hc HB hx1059_5
       replace p1059 := eq_true p1059
       replace q1059 := eq_true q1059
       go_wp2
       go_ret
       exact ⟨re, bq⟩
     ·obtain rfl := Option.some.inj H
      have p1057 : 0 ≤ (x5_1 : Int) := od
      have q1057 : x5_1 < (l0.length : Int) := od
      obtain ⟨ad1057, e1057, hx1057_0, hx1057_1, hx1057_2, hx1057_3, hx1057_4, hx1057_5⟩ := at_T80 HR0.out x5_1 p1057 q1057
      cases e1057
      replace hx1057_0 := hc HB hx1057_0
      replace hx1057_1 := hc HB hx1057_1
      replace hx1057_2 := hc HB hx1057_2
      replace hx1057_3 := hc HB hx1057_3
      replace hx1057_4 := hc HB hx1057_4
      replace hx1057_5 := hc HB hx1057_5
      replace p1057 := eq_true p1057
      replace q1057 := eq_true q1057
      have p1058 : 0 ≤ (x5_1 : Int) := od
      have q1058 : x5_1 < (l0.length : Int) := od
      obtain ⟨ad1058, e1058, hx1058_0, hx1058_1, hx1058_2, hx1058_3, hx1058_4, hx1058_5⟩ := at_T80 HR0.out x5_1 p1058 q1058
      obtain rfl : ad1057 = ad1058 := (by injection e1058)
      replace hx1058_0 := hc HB hx1058_0
      replace hx1058_1 := hc HB hx1058_1
      replace hx1058_2 := hc HB hx1058_2
      replace hx1058_3 := hc HB hx1058_3
      replace hx1058_4 := hc HB hx1058_4
      replace hx1058_5 := hc HB hx1058_5
      replace p1058 := eq_true p1058
      replace q1058 := eq_true q1058
      go_wp2
      go_ret
      exact ⟨re, bq⟩
    ·obtain rfl := Option.some.inj H
     have p1057 : 0 ≤ (x5_1 : Int) := od
     have q1057 : x5_1 < (l0.length : Int) := od
     obtain ⟨ad1057, e1057, hx1057_0, hx1057_1, hx1057_2, hx1057_3, hx1057_4, hx1057_5⟩ := at_T80 HR0.out x5_1 p1057 q1057
     cases e1057
     replace hx1057_0 := hc HB hx1057_0
     replace hx1057_1 := hc HB hx1057_1
     replace hx1057_2 := hc HB hx1057_2
     replace hx1057_3 := hc HB hx1057_3
     replace hx1057_4 := hc HB hx1057_4
     replace hx1057_5 := hc HB hx1057_5
     replace p1057 := eq_true p1057
     replace q1057 := eq_true q1057
     go_wp2
     go_ret
     exact ⟨re, bq⟩
   ·obtain rfl := Option.some.inj H
    go_wp2
    go_ret
    exact ⟨re, bq⟩
theorem laws_heldProbeCellS.calls (k : Nat) (A0 : Option Addr) (c0 : Nat) (l0 : List (S84)) (a1 r : Int) (w : World) (hr0 : Kd.C k84 w A0 l0.length l0) (hc0 : l0.length ≤ c0) (h : laws_heldProbeCellS.f k l0 a1 = some r) :
  Calls Tryz.prog 68 #[.slice A0 l0.length c0, .int .i64 a1] w fun e w' => e = .returned (.int .i64 r) ∧ Below w.heap.size w w' := by
 have HR0 := ra hr0
 have HC0 := ra hc0
 clear hr0 hc0
 have HB := ra (Below.refl w.heap.size w)
 have H := h; unfold laws_heldProbeCellS.f at H
 clear h
 have H' := ra H; clear H
 go_enter Tryz.func68, Tryz.ntmps68
 go_wp2
 go_loopg [1, 5] k (fun kq v1 v5 w' => ∃ (x1_1 : Int) (x5_1 : Int), v1 = .int .i64 x1_1 ∧ v5 = .int .i64 x5_1 ∧ Aside0 (laws_heldProbeCellS.l0 kq l0 x1_1 x5_1 = some r) ∧ Aside0 (kq ≤ k) ∧ Aside0 (Below w.heap.size w w'))
 case atStart => exact ⟨(a1), (0), rs, rs, H', ⟨Nat.le_refl _⟩, ⟨bq⟩⟩
 case round =>
  clear H'
  obtain ⟨x1_1, x5_1, rfl, rfl, HA, HK1, HB⟩ := hrel
  cases gk with
  | zero => exact absurd HA.out (by simp [laws_heldProbeCellS.l0])
  | succ k1 =>
   have H := HA.out
   clear HA
   simp only [laws_heldProbeCellS.l0] at H
   rcases td H with ⟨c3b0, H⟩ | ⟨c3b0, H⟩
   ·obtain ⟨c4b0, H⟩ := tn H
    rcases ed H with ⟨-, c5b0, c5b1, H⟩ | ⟨c5, c5b0, c5b1, H⟩
    ·rcases ed H with ⟨-, c6b0, c6b1, H⟩ | ⟨c6, c6b0, c6b1, H⟩
     ·obtain ⟨t1067, A7, H⟩ := bo H
      rcases td H with ⟨c8b0, H⟩ | ⟨c8b0, H⟩
      ·obtain rfl := Option.some.inj H
       have p1064 : 0 ≤ (x5_1 : Int) := od
       have q1064 : x5_1 < (l0.length : Int) := od
       obtain ⟨ad1064, A1064_2, c1064_2, e1064, hx1064_0, hx1064_1, hx1064_2, hl1064_2, hi1064_2⟩ := at_T84 HR0.out x5_1 p1064 q1064
       cases e1064
       replace hx1064_0 := hc HB hx1064_0
       replace hx1064_1 := hc HB hx1064_1
       replace hx1064_2 := hc HB hx1064_2
       have HR1064_2 := ra hi1064_2
       have HC1064_2 := ra hl1064_2
       clear hi1064_2 hl1064_2
       replace p1064 := eq_true p1064
       replace q1064 := eq_true q1064
       have p1065 : 0 ≤ (x5_1 : Int) := od
       have q1065 : x5_1 < (l0.length : Int) := od
       obtain ⟨ad1065, A1065_2, c1065_2, e1065, hx1065_0, hx1065_1, hx1065_2, hl1065_2, hi1065_2⟩ := at_T84 HR0.out x5_1 p1065 q1065
       obtain rfl : ad1064 = ad1065 := (by injection e1065)
       replace hx1065_0 := hc HB hx1065_0
       replace hx1065_1 := hc HB hx1065_1
       replace hx1065_2 := hc HB hx1065_2
       have HR1065_2 := ra hi1065_2
       have HC1065_2 := ra hl1065_2
       clear hi1065_2 hl1065_2
       replace p1065 := eq_true p1065
       replace q1065 := eq_true q1065
       have ea_ := Option.some.inj (hx1064_2.symm.trans hx1065_2)
       injection ea_ with ea_ en_ ec_
       subst ea_
       subst ec_
       clear en_
       have p1066 : 0 ≤ (x5_1 : Int) := od
       have q1066 : x5_1 < (l0.length : Int) := od
       obtain ⟨ad1066, A1066_2, c1066_2, e1066, hx1066_0, hx1066_1, hx1066_2, hl1066_2, hi1066_2⟩ := at_T84 HR0.out x5_1 p1066 q1066
       obtain rfl : ad1064 = ad1066 := (by injection e1066)
       replace hx1066_0 := hc HB hx1066_0
       replace hx1066_1 := hc HB hx1066_1
       replace hx1066_2 := hc HB hx1066_2
       have HR1066_2 := ra hi1066_2
       have HC1066_2 := ra hl1066_2
       clear hi1066_2 hl1066_2
       replace p1066 := eq_true p1066
       replace q1066 := eq_true q1066
       have ea_ := Option.some.inj (hx1064_2.symm.trans hx1066_2)
       injection ea_ with ea_ en_ ec_
       subst ea_
       subst ec_
       clear en_
       go_wp2_with (first | ((with_reducible refine gc 90 rfl ?_); refine gy (some 36) Tryz.func90 (laws_heldProbeSlotS.calls _ _ _ _ _ _ _ (sc HR1066_2) HC1066_2.out A7.out) ?_; rintro w9 hb; replace HB := bs hb; clear hb))
       go_ret
       exact ⟨re, bq⟩
      ·have H' := ra H; clear H
       have p1064 : 0 ≤ (x5_1 : Int) := od
       have q1064 : x5_1 < (l0.length : Int) := od
       obtain ⟨ad1064, A1064_2, c1064_2, e1064, hx1064_0, hx1064_1, hx1064_2, hl1064_2, hi1064_2⟩ := at_T84 HR0.out x5_1 p1064 q1064
       cases e1064
       replace hx1064_0 := hc HB hx1064_0
       replace hx1064_1 := hc HB hx1064_1
       replace hx1064_2 := hc HB hx1064_2
       have HR1064_2 := ra hi1064_2
       have HC1064_2 := ra hl1064_2
       clear hi1064_2 hl1064_2
       replace p1064 := eq_true p1064
       replace q1064 := eq_true q1064
       have p1065 : 0 ≤ (x5_1 : Int) := od
       have q1065 : x5_1 < (l0.length : Int) := od
       obtain ⟨ad1065, A1065_2, c1065_2, e1065, hx1065_0, hx1065_1, hx1065_2, hl1065_2, hi1065_2⟩ := at_T84 HR0.out x5_1 p1065 q1065
       obtain rfl : ad1064 = ad1065 := (by injection e1065)
       replace hx1065_0 := hc HB hx1065_0
       replace hx1065_1 := hc HB hx1065_1
       replace hx1065_2 := hc HB hx1065_2
       have HR1065_2 := ra hi1065_2
       have HC1065_2 := ra hl1065_2
       clear hi1065_2 hl1065_2
       replace p1065 := eq_true p1065
       replace q1065 := eq_true q1065
       have ea_ := Option.some.inj (hx1064_2.symm.trans hx1065_2)
       injection ea_ with ea_ en_ ec_
       subst ea_
       subst ec_
       clear en_
       have p1066 : 0 ≤ (x5_1 : Int) := od
       have q1066 : x5_1 < (l0.length : Int) := od
       obtain ⟨ad1066, A1066_2, c1066_2, e1066, hx1066_0, hx1066_1, hx1066_2, hl1066_2, hi1066_2⟩ := at_T84 HR0.out x5_1 p1066 q1066
       obtain rfl : ad1064 = ad1066 := (by injection e1066)
       replace hx1066_0 := hc HB hx1066_0
       replace hx1066_1 := hc HB hx1066_1
       replace hx1066_2 := hc HB hx1066_2
       have HR1066_2 := ra hi1066_2
       have HC1066_2 := ra hl1066_2
       clear hi1066_2 hl1066_2
       replace p1066 := eq_true p1066
       replace q1066 := eq_true q1066
       have ea_ := Option.some.inj (hx1064_2.symm.trans hx1066_2)
       injection ea_ with ea_ en_ ec_
       subst ea_
       subst ec_
       clear en_
       go_wp2_with (first | ((with_reducible refine gc 90 rfl ?_); refine gy (some 36) Tryz.func90 (laws_heldProbeSlotS.calls _ _ _ _ _ _ _ (sc HR1066_2) HC1066_2.out A7.out) ?_; rintro w10 hb; replace HB := bs hb; clear hb))
       go_roundg k1
       case measure => have := HK1.out; omega
       case rel => exact ⟨(t1067), (wrap64 (x5_1 + 1)), rs, rs, H', ⟨by have := HK1.out; omega⟩, ⟨bq⟩⟩
     ·obtain rfl := Option.some.inj H
      have p1064 : 0 ≤ (x5_1 : Int) := od
      have q1064 : x5_1 < (l0.length : Int) := od
      obtain ⟨ad1064, A1064_2, c1064_2, e1064, hx1064_0, hx1064_1, hx1064_2, hl1064_2, hi1064_2⟩ := at_T84 HR0.out x5_1 p1064 q1064
      cases e1064
      replace hx1064_0 := hc HB hx1064_0
      replace hx1064_1 := hc HB hx1064_1
      replace hx1064_2 := hc HB hx1064_2
      have HR1064_2 := ra hi1064_2
      have HC1064_2 := ra hl1064_2
      clear hi1064_2 hl1064_2
      replace p1064 := eq_true p1064
      replace q1064 := eq_true q1064
      have p1065 : 0 ≤ (x5_1 : Int) := od
      have q1065 : x5_1 < (l0.length : Int) := od
      obtain ⟨ad1065, A1065_2, c1065_2, e1065, hx1065_0, hx1065_1, hx1065_2, hl1065_2, hi1065_2⟩ := at_T84 HR0.out x5_1 p1065 q1065
      obtain rfl : ad1064 = ad1065 := (by injection e1065)
      replace hx1065_0 := hc HB hx1065_0
      replace hx1065_1 := hc HB hx1065_1
      replace hx1065_2 := hc HB hx1065_2
      have HR1065_2 := ra hi1065_2
      have HC1065_2 := ra hl1065_2
      clear hi1065_2 hl1065_2
      replace p1065 := eq_true p1065
      replace q1065 := eq_true q1065
      have ea_ := Option.some.inj (hx1064_2.symm.trans hx1065_2)
      injection ea_ with ea_ en_ ec_
      subst ea_
      subst ec_
      clear en_
      go_wp2
      go_ret
      exact ⟨re, bq⟩
    ·obtain rfl := Option.some.inj H
     have p1064 : 0 ≤ (x5_1 : Int) := od
     have q1064 : x5_1 < (l0.length : Int) := od
     obtain ⟨ad1064, A1064_2, c1064_2, e1064, hx1064_0, hx1064_1, hx1064_2, hl1064_2, hi1064_2⟩ := at_T84 HR0.out x5_1 p1064 q1064
     cases e1064
     replace hx1064_0 := hc HB hx1064_0
     replace hx1064_1 := hc HB hx1064_1
     replace hx1064_2 := hc HB hx1064_2
     have HR1064_2 := ra hi1064_2
     have HC1064_2 := ra hl1064_2
     clear hi1064_2 hl1064_2
     replace p1064 := eq_true p1064
     replace q1064 := eq_true q1064
     go_wp2
     go_ret
     exact ⟨re, bq⟩
   ·obtain rfl := Option.some.inj H
    go_wp2
    go_ret
    exact ⟨re, bq⟩
end Go.Proofs.YtgklmafdbgnohaaGreat.PA
end
section
namespace Go.Proofs.YtgklmafdbgnohaaGreat.PA
open Go.RowKit Go.Proofs.YtgklmafdbgnohaaGreatW.PrintWords Go.Proofs.YtgklmafdbgnohaaGreatW.PrintLast Go.Proofs.YtgklmafdbgnohaaGreatW.PrintMore Go.Proofs.YtgklmafdbgnohaaGreat.Z
attribute [local go_sem] max2_int min2_int max_two min_two max_three min_three max_four min_four
set_option linter.unusedVariables false
set_option linter.unusedSimpArgs false
set_option maxHeartbeats 8000000 in
set_option maxRecDepth 100000 in
theorem laws_heldProbeIndex.calls (k : Nat) (A0_0 : Option Addr) (c0_0 : Nat) (l0_0 : List (S84)) (a1 : Int) (r : Int) (w : World) (hr0_0 : Kd.C k84 w A0_0 l0_0.length l0_0) (hc0_0 : l0_0.length ≤ c0_0) (h : laws_heldProbeIndex.f k l0_0 a1 = some r) :
  Calls Tryz.prog 33 #[.agg #[.slice A0_0 l0_0.length c0_0], .int .i64 a1] w fun e w' => e = .returned (.int .i64 r) ∧ Below w.heap.size w w' := by
 have hu28 := Tryz.underlying28
 have HR0_0 := Aside0.mk hr0_0
 have HC0_0 := Aside0.mk hc0_0
 clear hr0_0 hc0_0
 have HB := ra (Below.refl w.heap.size w)
 have H : ((laws_heldProbeCellS.f k l0_0 a1).bind fun t1069 => (if t1069 < 0 then (some (-1)) else (some t1069))) = some r := h
 clear h
 obtain ⟨t1069, A3, H⟩ := bo H
 by_cases c4 : t1069 < 0
 ·rw [if_pos c4] at H
  have c4b0 : decide (t1069 < 0) = true := decide_eq_true c4
  clear c4
  obtain rfl := Option.some.inj H
  go_enter Tryz.func33, Tryz.ntmps33
  go_wp2_with (first | ((with_reducible refine gate_dst (N := 2) rfl ?_); refine be 2 #[.slice A0_0 l0_0.length c0_0] 28 ?_; intro gb1068 hg w5 hbox hb; have _ := bs hb; have _ := ra (hbox); have _ := bz (w0 := w) hg; have _ := bz (w0 := w) hg; clear HB; rename_i HB BK1068 GW1068 GE1068; clear hb hbox hg; obtain ⟨hcz6_0, hfz6_0⟩ := zc1 BK1068) | ((with_reducible refine gate_callee (f := 68) rfl ?_); refine gl (some 8) Tryz.func68 #[.slice A0_0 l0_0.length c0_0, .int .i64 a1] ?_; (with_reducible refine (laws_heldProbeCellS.calls k _ _ l0_0 a1 t1069 _ ?side1 ?side2 A3.out).mono ?_); (case side1 => exact sc HR0_0); (case side2 => exact HC0_0.out); rintro e w7 ⟨rfl, hb⟩; refine ⟨_, rfl, ?_⟩; have _ := bb (bk BK1068) hb; have _ := bs hb; clear BK1068 HB; rename_i BK1068 HB; (try clear hb); (try clear hb2); (try clear hk); (try clear hi)))
  go_ret
  exact ⟨re, bq⟩
 ·rw [if_neg c4] at H
  have c4b0 : decide (t1069 < 0) = false := decide_eq_false c4
  clear c4
  obtain rfl := Option.some.inj H
  go_enter Tryz.func33, Tryz.ntmps33
  go_wp2_with (first | ((with_reducible refine gate_dst (N := 2) rfl ?_); refine be 2 #[.slice A0_0 l0_0.length c0_0] 28 ?_; intro gb1068 hg w8 hbox hb; have _ := bs hb; have _ := ra (hbox); have _ := bz (w0 := w) hg; have _ := bz (w0 := w) hg; clear HB; rename_i HB BK1068 GW1068 GE1068; clear hb hbox hg; obtain ⟨hcz9_0, hfz9_0⟩ := zc1 BK1068) | ((with_reducible refine gate_callee (f := 68) rfl ?_); refine gl (some 8) Tryz.func68 #[.slice A0_0 l0_0.length c0_0, .int .i64 a1] ?_; (with_reducible refine (laws_heldProbeCellS.calls k _ _ l0_0 a1 t1069 _ ?side1 ?side2 A3.out).mono ?_); (case side1 => exact sc HR0_0); (case side2 => exact HC0_0.out); rintro e w10 ⟨rfl, hb⟩; refine ⟨_, rfl, ?_⟩; have _ := bb (bk BK1068) hb; have _ := bs hb; clear BK1068 HB; rename_i BK1068 HB; (try clear hb); (try clear hb2); (try clear hk); (try clear hi)))
  go_ret
  exact ⟨re, bq⟩
end Go.Proofs.YtgklmafdbgnohaaGreat.PA
end
