/- Contracts (began as prints of the kit's tool; shortened). No condition beside what the Lean functions say. -/
import Derived.Test.YtjelgpmhbaiipaaGreatDoorFPAd9
import Derived.Test.YtjelgpmhbaiipaaGreatDoorFZCx1
import Derived.Test.YtjelgpmhbaiipaaGreatDoorFZCv2
import Derived.Test.YtjelgpmhbaiipaaGreatDoorFG11
import Derived.Test.YtjelgpmhbaiipaaGreatDoorFZSrch21
import Derived.Test.YtjelgpmhbaiipaaGreatDoorFZIns22
import Derived.Test.YtjelgpmhbaiipaaGreatDoorFZCy10
section
namespace Go.Proofs.YtjelgpmhbaiipaaGreatDoor.PA
open Go.RowKit Go.Proofs.YtjelgpmhbaiipaaGreatDoorW.PrintWords Go.Proofs.YtjelgpmhbaiipaaGreatDoorW.PrintLast Go.Proofs.YtjelgpmhbaiipaaGreatDoorW.PrintMore Go.Proofs.YtjelgpmhbaiipaaGreatDoor.Z
attribute [local go_sem] max2_int min2_int max_two min_two max_three min_three max_four min_four
set_option linter.unusedVariables false
set_option maxHeartbeats 8000000
set_option maxRecDepth 100000
set_option linter.unusedSimpArgs false
def impl_ProbeSkyOk.T6 : Bool × List (List Nat × List Nat) := (true, [([], []), ([0], [0]), ([1], [1]), ([2, 1], [2]), ([3], [3]), ([4, 3], [3, 4]), ([5, 3, 3], [3, 5]), ([6], [6]), ([6], [6]), ([8, 6], [6, 8]), ([7, 9, 6], [6, 7, 9]), ([10, 6], [6, 10]), ([11, 6], [6, 11]), ([6], [6]), ([13, 6], [6, 13]), ([12, 14, 6], [6, 12, 14]), ([6, 15, 3], [3, 6, 15]), ([3, 16], [3, 16])])
def impl_ProbeSkyOk.B6 : List Nat := [0, 1, 3, 7, 15, 31, 63, 127, 127, 383, 1023, 2047, 4095, 127, 8319, 32767, 65535, 131071]
theorem impl_ProbeSkyOk.tab6 : rtab .any (opsOf Tryz.f60 6) = impl_ProbeSkyOk.T6 := by kernel_rfl
theorem impl_ProbeSkyOk.bits6 : waitsOk impl_ProbeSkyOk.T6.2 impl_ProbeSkyOk.B6 = true := by kernel_rfl
theorem impl_ProbeSkyOk.calls (k : Nat) (A0 : Option Addr) (c0 : Nat) (l0 : List (S33)) (r : Bool) (w : World) (hr0 : Kd.C k33 w A0 l0.length l0) (hc0 : l0.length ≤ c0) (h : impl_ProbeSkyOk.f k l0 = some r) :
  Calls Tryz.prog 60 #[.slice A0 l0.length c0] w fun e w' => e = .returned (.bool r) ∧ Below w.heap.size w w' := by
 have Z0 := Tryz.underlying33
 have Z1 := ra hr0
 have Z2 := ra hc0
 clear hr0 hc0
 have HB := ra (Below.refl w.heap.size w)
 have H := h; unfold impl_ProbeSkyOk.f at H
 clear h
 rcases sd H with ⟨Z3, Z4, H⟩ | ⟨Z3, Z4, H⟩
 ·have Z5 : decide (24 < l0.length) = true := decide_eq_true (by omega)
  clear Z3
  obtain rfl := Option.some.inj H
  go_enter Tryz.func60, Tryz.ntmps60
  go_wp2
  go_ret
  exact ⟨re, bq⟩
 ·have Z5 : decide (24 < l0.length) = false := decide_eq_false (by omega)
  clear Z3
  have H' := ra H; clear H
  go_enter Tryz.func60, Tryz.ntmps60
  go_wp2
  go_loopg [10] k (fun kq v10 w' => ∃ (x10_1 : Int), v10 = .int .i64 x10_1 ∧ Aside0 (impl_ProbeSkyOk.l0 kq l0 l0 (l0.length : Int) x10_1 = some r) ∧ Aside0 (kq ≤ k) ∧ Aside0 (Below w.heap.size w w'))
  case atStart => exact ⟨_, rs, H', ⟨Nat.le_refl _⟩, ⟨bq⟩⟩
  case round =>
   clear H'
   try clear Z3
   try clear Z4
   try clear Z5
   obtain ⟨Z6, rfl, HA, Z7, HB⟩ := hrel
   cases gk with
   | zero => exact absurd HA.out (by simp [impl_ProbeSkyOk.l0])
   | succ Z8 =>
    have H := HA.out
    clear HA
    simp only [impl_ProbeSkyOk.l0] at H
    rcases td H with ⟨Z9, H⟩ | ⟨Z9, H⟩
    ·obtain ⟨Z10, H⟩ := tn H
     obtain ⟨Z11, H⟩ := tn H
     obtain ⟨Z12, Z13, H⟩ := bo H
     rcases ud H with ⟨rfl, Z14⟩ | ⟨rfl, Z14⟩ <;> have H := Z14
     ·rcases td H with ⟨Z15, H⟩ | ⟨Z15, H⟩
      ·obtain ⟨Z16, Z17⟩ : ∃ j_ : Int, (wrap64 (Z6 - 1)) = j_ := ⟨_, rfl⟩
       replace H : (if 0 ≤ (Z16) then (if (Z16) < (l0.length : Int) then (if ((Op.bytesLess (((rd_T33 l0 (Z16)).f0).toList) (((rd_T33 l0 Z6).f0).toList)) = true) then (impl_ProbeSkyOk.l0 Z8 l0 l0 (l0.length : Int) (wrap64 (Z6 + 1))) else (some false)) else (none)) else (none)) = some r := by first | (rw [Z17] at H; exact H) | (simp only [Z17] at H ⊢; exact H)
       (try rw [Z17] at Z13)
       have Z18 : (IntKind.i64.wrap (Z6 - 1)) = Z16 := (i64_w _).trans Z17
       obtain ⟨Z19, H⟩ := tn H
       obtain ⟨Z20, H⟩ := tn H
       by_cases Z21 : ((Op.bytesLess (((rd_T33 l0 (Z16)).f0).toList) (((rd_T33 l0 Z6).f0).toList)) = true)
       ·rw [if_pos Z21] at H
        have Z22 : (Op.bytesLess (((rd_T33 l0 (Z16)).f0).toList) (((rd_T33 l0 Z6).f0).toList)) = true := Z21
        clear Z21
        have H' := ra H; clear H
        have Z23 : 0 ≤ (Z6 : Int) := od
        have Z24 : Z6 < (l0.length : Int) := od
        obtain ⟨Z25, Z26, Z27, Z28, Z29, Z30, Z31, Z32⟩ := at_T33 Z1.out Z6 Z23 Z24
        cases Z28
        replace Z29 := hc HB Z29
        replace Z30 := hc HB Z30
        have Z33 := ra Z32
        have Z34 := ra Z31
        clear Z32 Z31
        replace Z23 := eq_true Z23
        replace Z24 := eq_true Z24
        try go_wp2_with (first | ((with_reducible refine gd 4 rfl ?_); refine bd 4 #[.string (⟨#[]⟩ : ByteArray), .slice none 0 0] 33 ?_; intro Z35 Z36 HB Z37 Z38; obtain ⟨Z39, Z40, Z41, Z42⟩ := zc2 Z37))
        have Z43 : Aside0 (((Z36.setCell ⟨Z35, 0, none⟩ (.string ((rd_T33 l0 Z6).f0))).setCell ⟨Z35, 1, none⟩ (.slice Z26 ((rd_T33 l0 Z6).f1).length Z27)).heap[Z35]? = some (.cells #[.string ((rd_T33 l0 Z6).f0), .slice Z26 ((rd_T33 l0 Z6).f1).length Z27] 33 (0, 0))) := ⟨bp Z37⟩
        have Z44 : Aside0 (Below w.heap.size w ((Z36.setCell ⟨Z35, 0, none⟩ (.string ((rd_T33 l0 Z6).f0))).setCell ⟨Z35, 1, none⟩ (.slice Z26 ((rd_T33 l0 Z6).f1).length Z27))) := ⟨bq⟩
        (try clear Z37)
        (try clear HB)
        generalize ((Z36.setCell ⟨Z35, 0, none⟩ (.string ((rd_T33 l0 Z6).f0))).setCell ⟨Z35, 1, none⟩ (.slice Z26 ((rd_T33 l0 Z6).f1).length Z27)) = Z45 at Z43 Z44 ⊢
        have Z37 := Z43
        have HB := Z44
        clear Z43 Z44
        have _ := ra (blk_drew Z37.out)
        have _ := ra (below_drew1 HB.out)
        clear Z37 HB
        rename_i Z37 HB
        have Z46 : 0 ≤ ((Z16) : Int) := od
        have Z47 : (Z16) < (l0.length : Int) := od
        obtain ⟨Z48, Z49, Z50, Z51, Z52, Z53, Z54, Z55⟩ := at_T33 Z1.out (Z16) Z46 Z47
        have Z56 := Z53
        have Z57 := Z52
        obtain rfl : Z25 = Z48 := (by injection Z51)
        replace Z52 := hc HB Z52
        replace Z53 := hc HB Z53
        have Z58 := ra Z55
        have Z59 := ra Z54
        clear Z55 Z54
        replace Z46 := eq_true Z46
        replace Z47 := eq_true Z47
        refine start_ (n := 18) (S := fun w' => w'.cell? ⟨Z35, 0, none⟩ = some (.string ((rd_T33 l0 Z6).f0)) ∧ w'.cell? ⟨Z35, 1, none⟩ = some (.slice Z26 ((rd_T33 l0 Z6).f1).length Z27) ∧ w'.cell? (Z25.add (((Z16)).toNat * 2)) = some (.string ((rd_T33 l0 (Z16)).f0)) ∧ w'.cell? ⟨(Z25.add (((Z16)).toNat * 2)).block, (Z25.add (((Z16)).toNat * 2)).off + 1, none⟩ = some (.slice Z49 ((rd_T33 l0 (Z16)).f1).length Z50)) (ds := []) (bl 18 0) (by kernel_rfl) rfl rfl ⟨(blk_cell Z37.out 0).trans rfl, (blk_cell Z37.out 1).trans rfl, (hc HB Z57), (hc HB Z56)⟩ (fun hHeld => ?_); refine with_tabW impl_ProbeSkyOk.tab6 impl_ProbeSkyOk.bits6 (fun HT_ HW_ => ?_)
        generalize Z45.drew = Z60 at Z37 HB Z58 Z52 Z53 hHeld ⊢
        refine tk 0 15 (bl 18 1) ?_ hHeld
        refine oe 1 16 (bl 18 3) (fun K hK => ?_)
        refine gs Tryz.func61 #[.agg #[.string ((rd_T33 l0 Z6).f0), .slice Z26 ((rd_T33 l0 Z6).f1).length Z27]] ?_
        with_reducible refine (impl_ProbeTubeOk.calls Z8 ((rd_T33 l0 Z6).f0) _ _ ((rd_T33 l0 Z6).f1) true _ ?side1 ?side2 Z13.out).mono ?_
        (case side1 => exact sc Z33)
        (case side2 => exact Z34.out)
        rintro e Z61 ⟨rfl, hb⟩
        refine ⟨_, rfl, ?_⟩
        have _ := bb (bk Z37) hb
        have _ := bs hb
        clear Z37 HB
        rename_i Z37 HB
        (try clear hb)
        refine hK.out _ _ ⟨(blk_cell Z37.out 0).trans rfl, (blk_cell Z37.out 1).trans rfl, (hc HB Z57), (hc HB Z56)⟩ (fun hHeld => ?_)
        clear hK K
        refine nm 16 ?_
        refine pu 2 17 (bl 18 7) ?_
        refine pu 3 18 (bl 18 15) ?_
        refine pu 4 19 (bl 18 31) ?_
        refine pu 5 20 (bl 18 63) ?_
        refine pu 6 21 (bl 18 127) ?_
        refine pu 7 22 (bl 18 255) ?_
        refine pu 8 23 (bl 18 511) ?_
        refine pu 9 24 (bl 18 1023) ?_
        refine pu 10 25 (bl 18 2047) ?_
        refine pu 11 26 (bl 18 4095) ?_
        refine pu 13 28 (bl 18 12287) ?_
        refine tk 12 27 (bl 18 16383) ?_ hHeld
        refine tk 14 29 (bl 18 32767) ?_ hHeld
        refine pu 15 30 (bl 18 65535) ?_
        refine pu 16 31 (bl 18 131071) ?_
        refine pu 17 32 (bl 18 262143) ?_
        refine done_ (done_of HT_.out (by kernel_rfl)) ?_
        try go_wp2
        go_roundg Z8
        case measure => have := Z7.out; omega
        case rel => exact ⟨_, rs, H', ⟨by have := Z7.out; omega⟩, ⟨bq⟩⟩
       ·rw [if_neg Z21] at H
        have Z22 : (Op.bytesLess (((rd_T33 l0 (Z16)).f0).toList) (((rd_T33 l0 Z6).f0).toList)) = false := by simpa using Z21
        clear Z21
        obtain rfl := Option.some.inj H
        have Z23 : 0 ≤ (Z6 : Int) := od
        have Z24 : Z6 < (l0.length : Int) := od
        obtain ⟨Z25, Z26, Z27, Z28, Z29, Z30, Z31, Z32⟩ := at_T33 Z1.out Z6 Z23 Z24
        cases Z28
        replace Z29 := hc HB Z29
        replace Z30 := hc HB Z30
        have Z33 := ra Z32
        have Z34 := ra Z31
        clear Z32 Z31
        replace Z23 := eq_true Z23
        replace Z24 := eq_true Z24
        try go_wp2_with (first | ((with_reducible refine gd 4 rfl ?_); refine bd 4 #[.string (⟨#[]⟩ : ByteArray), .slice none 0 0] 33 ?_; intro Z35 Z36 HB Z37 Z38; obtain ⟨Z39, Z40, Z41, Z42⟩ := zc2 Z37))
        have Z43 : Aside0 (((Z36.setCell ⟨Z35, 0, none⟩ (.string ((rd_T33 l0 Z6).f0))).setCell ⟨Z35, 1, none⟩ (.slice Z26 ((rd_T33 l0 Z6).f1).length Z27)).heap[Z35]? = some (.cells #[.string ((rd_T33 l0 Z6).f0), .slice Z26 ((rd_T33 l0 Z6).f1).length Z27] 33 (0, 0))) := ⟨bp Z37⟩
        have Z44 : Aside0 (Below w.heap.size w ((Z36.setCell ⟨Z35, 0, none⟩ (.string ((rd_T33 l0 Z6).f0))).setCell ⟨Z35, 1, none⟩ (.slice Z26 ((rd_T33 l0 Z6).f1).length Z27))) := ⟨bq⟩
        (try clear Z37)
        (try clear HB)
        generalize ((Z36.setCell ⟨Z35, 0, none⟩ (.string ((rd_T33 l0 Z6).f0))).setCell ⟨Z35, 1, none⟩ (.slice Z26 ((rd_T33 l0 Z6).f1).length Z27)) = Z45 at Z43 Z44 ⊢
        have Z37 := Z43
        have HB := Z44
        clear Z43 Z44
        have _ := ra (blk_drew Z37.out)
        have _ := ra (below_drew1 HB.out)
        clear Z37 HB
        rename_i Z37 HB
        have Z46 : 0 ≤ ((Z16) : Int) := od
        have Z47 : (Z16) < (l0.length : Int) := od
        obtain ⟨Z48, Z49, Z50, Z51, Z52, Z53, Z54, Z55⟩ := at_T33 Z1.out (Z16) Z46 Z47
        have Z56 := Z53
        have Z57 := Z52
        obtain rfl : Z25 = Z48 := (by injection Z51)
        replace Z52 := hc HB Z52
        replace Z53 := hc HB Z53
        have Z58 := ra Z55
        have Z59 := ra Z54
        clear Z55 Z54
        replace Z46 := eq_true Z46
        replace Z47 := eq_true Z47
        refine start_ (n := 18) (S := fun w' => w'.cell? ⟨Z35, 0, none⟩ = some (.string ((rd_T33 l0 Z6).f0)) ∧ w'.cell? ⟨Z35, 1, none⟩ = some (.slice Z26 ((rd_T33 l0 Z6).f1).length Z27) ∧ w'.cell? (Z25.add (((Z16)).toNat * 2)) = some (.string ((rd_T33 l0 (Z16)).f0)) ∧ w'.cell? ⟨(Z25.add (((Z16)).toNat * 2)).block, (Z25.add (((Z16)).toNat * 2)).off + 1, none⟩ = some (.slice Z49 ((rd_T33 l0 (Z16)).f1).length Z50)) (ds := []) (bl 18 0) (by kernel_rfl) rfl rfl ⟨(blk_cell Z37.out 0).trans rfl, (blk_cell Z37.out 1).trans rfl, (hc HB Z57), (hc HB Z56)⟩ (fun hHeld => ?_); refine with_tabW impl_ProbeSkyOk.tab6 impl_ProbeSkyOk.bits6 (fun HT_ HW_ => ?_)
        generalize Z45.drew = Z60 at Z37 HB Z58 Z52 Z53 hHeld ⊢
        refine tk 0 15 (bl 18 1) ?_ hHeld
        refine oe 1 16 (bl 18 3) (fun K hK => ?_)
        refine gs Tryz.func61 #[.agg #[.string ((rd_T33 l0 Z6).f0), .slice Z26 ((rd_T33 l0 Z6).f1).length Z27]] ?_
        with_reducible refine (impl_ProbeTubeOk.calls Z8 ((rd_T33 l0 Z6).f0) _ _ ((rd_T33 l0 Z6).f1) true _ ?side1 ?side2 Z13.out).mono ?_
        (case side1 => exact sc Z33)
        (case side2 => exact Z34.out)
        rintro e Z61 ⟨rfl, hb⟩
        refine ⟨_, rfl, ?_⟩
        have _ := bb (bk Z37) hb
        have _ := bs hb
        clear Z37 HB
        rename_i Z37 HB
        (try clear hb)
        refine hK.out _ _ ⟨(blk_cell Z37.out 0).trans rfl, (blk_cell Z37.out 1).trans rfl, (hc HB Z57), (hc HB Z56)⟩ (fun hHeld => ?_)
        clear hK K
        refine nm 16 ?_
        refine pu 2 17 (bl 18 7) ?_
        refine pu 3 18 (bl 18 15) ?_
        refine pu 4 19 (bl 18 31) ?_
        refine pu 5 20 (bl 18 63) ?_
        refine pu 6 21 (bl 18 127) ?_
        refine pu 7 22 (bl 18 255) ?_
        refine pu 8 23 (bl 18 511) ?_
        refine pu 9 24 (bl 18 1023) ?_
        refine pu 10 25 (bl 18 2047) ?_
        refine pu 11 26 (bl 18 4095) ?_
        refine pu 13 28 (bl 18 12287) ?_
        refine tk 12 27 (bl 18 16383) ?_ hHeld
        refine tk 14 29 (bl 18 32767) ?_ hHeld
        refine pu 15 30 (bl 18 65535) ?_
        refine pu 16 31 (bl 18 131071) ?_
        refine pu 17 32 (bl 18 262143) ?_
        refine done_ (done_of HT_.out (by kernel_rfl)) ?_
        try go_wp2
        go_ret
        exact ⟨by first | rfl | (simp [errW_none, errW_some] <;> rfl) | (simp only [← Z17]; first | rfl | (simp [errW_none, errW_some] <;> rfl)) | (simp [*, errW_none, errW_some] <;> rfl), bq⟩
      ·have H' := ra H; clear H
       have Z16 : 0 ≤ (Z6 : Int) := od
       have Z17 : Z6 < (l0.length : Int) := od
       obtain ⟨Z18, Z19, Z20, Z21, Z22, Z23, Z24, Z25⟩ := at_T33 Z1.out Z6 Z16 Z17
       cases Z21
       replace Z22 := hc HB Z22
       replace Z23 := hc HB Z23
       have Z26 := ra Z25
       have Z27 := ra Z24
       clear Z25 Z24
       replace Z16 := eq_true Z16
       replace Z17 := eq_true Z17
       try go_wp2_with (first | ((with_reducible refine gd 4 rfl ?_); refine bd 4 #[.string (⟨#[]⟩ : ByteArray), .slice none 0 0] 33 ?_; intro Z28 Z29 HB Z30 Z31; obtain ⟨Z32, Z33, Z34, Z35⟩ := zc2 Z30))
       have Z36 : Aside0 (((Z29.setCell ⟨Z28, 0, none⟩ (.string ((rd_T33 l0 Z6).f0))).setCell ⟨Z28, 1, none⟩ (.slice Z19 ((rd_T33 l0 Z6).f1).length Z20)).heap[Z28]? = some (.cells #[.string ((rd_T33 l0 Z6).f0), .slice Z19 ((rd_T33 l0 Z6).f1).length Z20] 33 (0, 0))) := ⟨bp Z30⟩
       have Z37 : Aside0 (Below w.heap.size w ((Z29.setCell ⟨Z28, 0, none⟩ (.string ((rd_T33 l0 Z6).f0))).setCell ⟨Z28, 1, none⟩ (.slice Z19 ((rd_T33 l0 Z6).f1).length Z20))) := ⟨bq⟩
       (try clear Z30)
       (try clear HB)
       generalize ((Z29.setCell ⟨Z28, 0, none⟩ (.string ((rd_T33 l0 Z6).f0))).setCell ⟨Z28, 1, none⟩ (.slice Z19 ((rd_T33 l0 Z6).f1).length Z20)) = Z38 at Z36 Z37 ⊢
       have Z30 := Z36
       have HB := Z37
       clear Z36 Z37
       have _ := ra (blk_drew Z30.out)
       have _ := ra (below_drew1 HB.out)
       clear Z30 HB
       rename_i Z30 HB
       refine start_ (n := 18) (S := fun w' => w'.cell? ⟨Z28, 0, none⟩ = some (.string ((rd_T33 l0 Z6).f0)) ∧ w'.cell? ⟨Z28, 1, none⟩ = some (.slice Z19 ((rd_T33 l0 Z6).f1).length Z20)) (ds := []) (bl 18 0) (by kernel_rfl) rfl rfl ⟨(blk_cell Z30.out 0).trans rfl, (blk_cell Z30.out 1).trans rfl⟩ (fun hHeld => ?_); refine with_tabW impl_ProbeSkyOk.tab6 impl_ProbeSkyOk.bits6 (fun HT_ HW_ => ?_)
       generalize Z38.drew = Z39 at Z30 HB hHeld ⊢
       refine tk 0 15 (bl 18 1) ?_ hHeld
       refine oe 1 16 (bl 18 3) (fun K hK => ?_)
       refine gs Tryz.func61 #[.agg #[.string ((rd_T33 l0 Z6).f0), .slice Z19 ((rd_T33 l0 Z6).f1).length Z20]] ?_
       with_reducible refine (impl_ProbeTubeOk.calls Z8 ((rd_T33 l0 Z6).f0) _ _ ((rd_T33 l0 Z6).f1) true _ ?side1 ?side2 Z13.out).mono ?_
       (case side1 => exact sc Z26)
       (case side2 => exact Z27.out)
       rintro e Z40 ⟨rfl, hb⟩
       refine ⟨_, rfl, ?_⟩
       have _ := bb (bk Z30) hb
       have _ := bs hb
       clear Z30 HB
       rename_i Z30 HB
       (try clear hb)
       refine hK.out _ _ ⟨(blk_cell Z30.out 0).trans rfl, (blk_cell Z30.out 1).trans rfl⟩ (fun hHeld => ?_)
       clear hK K
       refine nm 16 ?_
       refine pu 2 17 (bl 18 7) ?_
       refine pu 3 18 (bl 18 15) ?_
       refine pu 4 19 (bl 18 31) ?_
       refine pu 5 20 (bl 18 63) ?_
       refine pu 6 21 (bl 18 127) ?_
       refine pv 7 22 (bl 18 255) ?_
       refine pv 8 23 (bl 18 511) ?_
       refine pv 9 24 (bl 18 1023) ?_
       refine pv 10 25 (bl 18 2047) ?_
       refine pv 11 26 (bl 18 4095) ?_
       refine pv 12 27 (bl 18 8191) ?_
       refine pv 13 28 (bl 18 16383) ?_
       refine pv 14 29 (bl 18 32767) ?_
       refine pv 15 30 (bl 18 65535) ?_
       refine pu 16 31 (bl 18 131071) ?_
       refine pu 17 32 (bl 18 262143) ?_
       refine done_ (done_of HT_.out (by kernel_rfl)) ?_
       try go_wp2
       go_roundg Z8
       case measure => have := Z7.out; omega
       case rel => exact ⟨_, rs, H', ⟨by have := Z7.out; omega⟩, ⟨bq⟩⟩
     ·obtain rfl := Option.some.inj H
      have Z15 : 0 ≤ (Z6 : Int) := od
      have Z16 : Z6 < (l0.length : Int) := od
      obtain ⟨Z17, Z18, Z19, Z20, Z21, Z22, Z23, Z24⟩ := at_T33 Z1.out Z6 Z15 Z16
      cases Z20
      replace Z21 := hc HB Z21
      replace Z22 := hc HB Z22
      have Z25 := ra Z24
      have Z26 := ra Z23
      clear Z24 Z23
      replace Z15 := eq_true Z15
      replace Z16 := eq_true Z16
      try go_wp2_with (first | ((with_reducible refine gd 4 rfl ?_); refine bd 4 #[.string (⟨#[]⟩ : ByteArray), .slice none 0 0] 33 ?_; intro Z27 Z28 HB Z29 Z30; obtain ⟨Z31, Z32, Z33, Z34⟩ := zc2 Z29))
      have Z35 : Aside0 (((Z28.setCell ⟨Z27, 0, none⟩ (.string ((rd_T33 l0 Z6).f0))).setCell ⟨Z27, 1, none⟩ (.slice Z18 ((rd_T33 l0 Z6).f1).length Z19)).heap[Z27]? = some (.cells #[.string ((rd_T33 l0 Z6).f0), .slice Z18 ((rd_T33 l0 Z6).f1).length Z19] 33 (0, 0))) := ⟨bp Z29⟩
      have Z36 : Aside0 (Below w.heap.size w ((Z28.setCell ⟨Z27, 0, none⟩ (.string ((rd_T33 l0 Z6).f0))).setCell ⟨Z27, 1, none⟩ (.slice Z18 ((rd_T33 l0 Z6).f1).length Z19))) := ⟨bq⟩
      (try clear Z29)
      (try clear HB)
      generalize ((Z28.setCell ⟨Z27, 0, none⟩ (.string ((rd_T33 l0 Z6).f0))).setCell ⟨Z27, 1, none⟩ (.slice Z18 ((rd_T33 l0 Z6).f1).length Z19)) = Z37 at Z35 Z36 ⊢
      have Z29 := Z35
      have HB := Z36
      clear Z35 Z36
      have _ := ra (blk_drew Z29.out)
      have _ := ra (below_drew1 HB.out)
      clear Z29 HB
      rename_i Z29 HB
      refine start_ (n := 18) (S := fun w' => w'.cell? ⟨Z27, 0, none⟩ = some (.string ((rd_T33 l0 Z6).f0)) ∧ w'.cell? ⟨Z27, 1, none⟩ = some (.slice Z18 ((rd_T33 l0 Z6).f1).length Z19)) (ds := []) (bl 18 0) (by kernel_rfl) rfl rfl ⟨(blk_cell Z29.out 0).trans rfl, (blk_cell Z29.out 1).trans rfl⟩ (fun hHeld => ?_); refine with_tabW impl_ProbeSkyOk.tab6 impl_ProbeSkyOk.bits6 (fun HT_ HW_ => ?_)
      generalize Z37.drew = Z38 at Z29 HB hHeld ⊢
      refine tk 0 15 (bl 18 1) ?_ hHeld
      refine oe 1 16 (bl 18 3) (fun K hK => ?_)
      refine gs Tryz.func61 #[.agg #[.string ((rd_T33 l0 Z6).f0), .slice Z18 ((rd_T33 l0 Z6).f1).length Z19]] ?_
      with_reducible refine (impl_ProbeTubeOk.calls Z8 ((rd_T33 l0 Z6).f0) _ _ ((rd_T33 l0 Z6).f1) false _ ?side1 ?side2 Z13.out).mono ?_
      (case side1 => exact sc Z25)
      (case side2 => exact Z26.out)
      rintro e Z39 ⟨rfl, hb⟩
      refine ⟨_, rfl, ?_⟩
      have _ := bb (bk Z29) hb
      have _ := bs hb
      clear Z29 HB
      rename_i Z29 HB
      (try clear hb)
      refine hK.out _ _ ⟨(blk_cell Z29.out 0).trans rfl, (blk_cell Z29.out 1).trans rfl⟩ (fun hHeld => ?_)
      clear hK K
      refine nm 16 ?_
      refine pu 2 17 (bl 18 7) ?_
      refine pu 3 18 (bl 18 15) ?_
      refine pv 4 19 (bl 18 31) ?_
      refine pv 5 20 (bl 18 63) ?_
      refine pv 6 21 (bl 18 127) ?_
      refine pv 7 22 (bl 18 255) ?_
      refine pv 8 23 (bl 18 511) ?_
      refine pv 9 24 (bl 18 1023) ?_
      refine pv 10 25 (bl 18 2047) ?_
      refine pv 11 26 (bl 18 4095) ?_
      refine pv 12 27 (bl 18 8191) ?_
      refine pv 13 28 (bl 18 16383) ?_
      refine pv 14 29 (bl 18 32767) ?_
      refine pv 15 30 (bl 18 65535) ?_
      refine pv 16 31 (bl 18 131071) ?_
      refine pu 17 32 (bl 18 262143) ?_
      refine done_ (done_of HT_.out (by kernel_rfl)) ?_
      try go_wp2
      go_ret
      exact ⟨re, bq⟩
    ·obtain rfl := Option.some.inj H
     go_wp2
     go_ret
     exact ⟨re, bq⟩
def impl_copyTube.T1 : Bool × List (List Nat × List Nat) := (true, [([], []), ([0], [0]), ([], []), ([], []), ([3], [3]), ([2, 4], [2, 4]), ([1, 5], [1, 5]), ([6, 5, 0, 1, 2, 3, 4, 5, 6], [6])])
def impl_copyTube.B1 : List Nat := [0, 1, 0, 0, 8, 28, 63, 127]
theorem impl_copyTube.tab1 : rtab .any (opsOf Tryz.f31 1) = impl_copyTube.T1 := by kernel_rfl
theorem impl_copyTube.bits1 : waitsOk impl_copyTube.T1.2 impl_copyTube.B1 = true := by kernel_rfl
theorem impl_copyTube.calls (a0_0 : ByteArray) (A0_1 : Option Addr) (c0_1 : Nat) (l0_1 : List (S46)) (r1 : ByteArray) (r2 : List (S46)) (w : World) (hr0_1 : Kd.C k46 w A0_1 l0_1.length l0_1) (hc0_1 : l0_1.length ≤ c0_1) (h : impl_copyTube.f a0_0 l0_1 = some (r1, r2)) :
  Calls Tryz.prog 31 #[.agg #[.string a0_0, .slice A0_1 l0_1.length c0_1]] w fun e w' => ∃ v1_ : Value, e = .returned (.agg #[.string r1, v1_]) ∧ Kd.R k46 46 w' w.heap.size (fun _ => True) v1_ r2 ∧ Below w.heap.size w w' := by
 have Z0 := Tryz.underlying33
 have Z1 := ra hr0_1
 have Z2 := ra hc0_1
 clear hr0_1 hc0_1
 have HB := ra (Below.refl w.heap.size w)
 have H := h; unfold impl_copyTube.f at H
 clear h
 obtain ⟨Z3, hy_⟩ : ∃ y_ : List (S46), y_ = (([] : List (S46))) := ⟨_, rfl⟩
 replace H : (if Z3.length + l0_1.length < 2932031007402 then (some (a0_0, (Z3 ++ l0_1))) else (none)) = some (r1, r2) := yh
 have Z4 := ra hy_
 clear hy_
 by_cases Z5 : Z3.length + l0_1.length < 2932031007402
 ·rw [if_pos Z5] at H
  have Z6 := ra Z5; clear Z5
  obtain ⟨Z7, hy_⟩ : ∃ y_ : List (S46), y_ = (Z3 ++ l0_1) := ⟨_, rfl⟩
  replace H : (some (a0_0, Z7)) = some (r1, r2) := yh
  have Z8 := ra hy_
  clear hy_
  simp only [Option.some.injEq, Prod.mk.injEq] at H
  obtain ⟨rfl, rfl⟩ := H
  go_enter Tryz.func31, Tryz.ntmps31
  try go_wp2_with (first | ((with_reducible refine gd 1 rfl ?_); refine bd 1 #[.string a0_0, .slice A0_1 l0_1.length c0_1] 33 ?_; intro Z9 Z10 HB Z11 Z12) | ((with_reducible refine gd 2 rfl ?_); refine bf 2 #[.string (⟨#[]⟩ : ByteArray), .slice none 0 0] 33 ?_; intro Z13 Z14 hg hb HB Z15 Z16; have Z17 := bn hg (bk Z11); have Z18 := bm hg (bk Z11); replace Z11 := bb (bk Z11) hb; clear hg hb))
  have _ := ra (blk_drew Z11.out)
  have _ := ra (blk_drew Z15.out)
  have _ := ra (below_drew1 HB.out)
  clear Z11 Z15 HB
  rename_i Z11 Z15 HB
  refine start_ (n := 8) (S := fun w' => w'.cell? ⟨Z9, 0, none⟩ = some (.string a0_0) ∧ w'.cell? ⟨Z9, 1, none⟩ = some (.slice A0_1 l0_1.length c0_1)) (ds := []) (bl 8 0) (by kernel_rfl) rfl rfl ⟨(blk_cell Z11.out 0).trans rfl, (blk_cell Z11.out 1).trans rfl⟩ (fun hHeld => ?_); refine with_tabW impl_copyTube.tab1 impl_copyTube.bits1 (fun HT_ HW_ => ?_)
  generalize Z14.drew = Z19 at Z11 Z15 HB hHeld ⊢
  refine pu 0 3 (bl 8 1) ?_
  refine pu 3 6 (bl 8 9) ?_
  refine tk 1 4 (bl 8 11) ?_ hHeld
  refine tk 4 7 (bl 8 27) ?_ hHeld
  refine oe 2 5 (bl 8 31) (fun K hK => ?_)
  refine Kd.R_lit_step k46 _ 46 ?hg (N := 5) ?hd (xs := ([] : List (S46))) (inner := []) (ok := fun _ => True) (okp := fun _ => True) ?hr ?hp (fun _ hk => hk) trivial (Below.refl _ _) (Nat.le_refl _) (by simp) ?_; (case hd => rfl); (case hg => rfl); (case hr => first | (go_simp; done) | (go_simp; rfl)); (case hp => exact (Reps.none _ _))
  intro Z20 Z21 Z22 hb hg_ hnew_
  clear hg_ hnew_
  (first | rw [← Z4.out] at Z22 | (simp only [Int.reduceToNat] at Z22; rw [← Z4.out] at Z22))
  have _ := ra (Kd.R_lower Z22 (below_size bq))
  have _ := bb (bk Z11) hb
  have _ := bb (bk Z15) hb
  have _ := bs hb
  clear Z11 Z15 HB
  rename_i Z23 Z11 Z15 HB
  clear hb Z22
  refine hK.out _ _ ⟨(blk_cell Z11.out 0).trans rfl, (blk_cell Z11.out 1).trans rfl⟩ (fun hHeld => ?_)
  clear hK K
  refine nm 5 ?_
  refine oe 5 8 (bl 8 63) (fun K hK => ?_)
  refine Kd.R_append_rows_step k46 (w0 := w) w.heap.size (by rfl) (.tmp 5) (.tmp 7) 31 46 (.agg #[(.int .i64 0), (.int .i64 0), (.int .i64 0), (.int .i64 0), (.int .i64 0), (.int .i64 0)]) 48 rfl Tryz.underlying31 info46 rfl (by decide) (by omega) Z20 Z3 l0_1 _ _ _ (fun _ => True) (fun _ => False) rfl rfl ?aO ?aR (fun _ _ h => h) (fun _ h => h.elim) ?aF ?aB ?aS ?aL ?_
  (case aR => exact sc Z1)
  (case aB => exact bq)
  (case aF => exact (fun _ _ => trivial))
  (case aO => exact (rq Z23))
  (case aS => exact (below_size bq))
  (case aL => have := Z6.out; omega)
  intro Z24 Z25 ho hb hg hat
  rw [← Z8.out] at ho
  have _ := ra (blk_grown (g := Z9) (o := .cells #[.string a0_0, .slice A0_1 l0_1.length c0_1] 33 (0, 0)) (bk Z11) hg (Kd.R_ne Z23.out Z11.out (by decide)))
  have _ := ra (blk_grown (g := Z13) (o := .cells #[.string (⟨#[]⟩ : ByteArray), .slice none 0 0] 33 (0, 0)) (bk Z15) hg (Kd.R_ne Z23.out Z15.out (by decide)))
  have _ := ra (hb)
  have _ := ra (ho)
  clear Z11 Z15 HB Z23
  rename_i Z11 Z15 HB Z26
  clear ho hb hg hat
  obtain ⟨Z27, Z28, Z29⟩ := Kd.R_slice Z26.out
  (first | subst Z29 | (injection Z29 with f1_ f2_ f3_; have Z30 := f1_.symm; have Z31 := f3_.symm; clear f1_ f2_ f3_; subst Z30; subst Z31))
  refine hK.out _ _ ⟨(blk_cell Z11.out 0).trans rfl, (blk_cell Z11.out 1).trans rfl⟩ (fun hHeld => ?_)
  clear hK K
  refine nm 8 ?_
  refine pu 6 9 (bl 8 127) ?_
  refine one_ (i := 7) (N := none) #[true, true, true, true, true, true, true, true] rfl rfl (one_of HT_.out (by kernel_rfl)) (by decide) (fun K hK => ?_)
  have Z32 : Z25.cell? ⟨Z13, 0, none⟩ = some (.string (⟨#[]⟩ : ByteArray)) := (blk_cell Z15.out 0).trans rfl
  have Z33 := blk_frozen Z15.out 0
  have Z34 := Z17.out
  have Z35 := Z18.out
  have Z36 : Z25.cell? ⟨Z13, 1, none⟩ = some (.slice none 0 0) := (blk_cell Z15.out 1).trans rfl
  have Z37 := blk_frozen Z15.out 1
  have Z38 := Z17.out
  have Z39 := Z18.out
  refine skip_ (w1 := ?_) (by rfl) rfl ?_ ?_
  rotate_left
  ·go_simp
   rfl
  refine hK.out _ _ ⟨cf hHeld.1, cf hHeld.2⟩ (fun hHeld => ?_)
  clear hK K
  refine done_ (done_of HT_.out (by kernel_rfl)) ?_
  try go_wp2
  refine bodyPost_ret (results_cell_row rfl _ _ Z13 33 #[.string a0_0, .slice Z27 Z7.length Z28] (0, 0) _ rfl (bp Z15) Tryz.underlying33 rfl (by kernel_rfl)) rfl ?_
  exact ⟨_, re, by (with_reducible repeat (first | apply Kd.R_alloc | apply Kd.R_drewN | apply Kd.R_drew)); exact Kd.R_mono (rf (Kd.R_types Z26.out Z15.out (by decide))) (fun _ hk => trivial), bq⟩
 ·rw [if_neg Z5] at H
  exact absurd H (by simp)
theorem impl_copyTubes.calls (k : Nat) (A0 : Option Addr) (c0 : Nat) (l0 r : List (S33)) (w : World) (hr0 : Kd.C k33 w A0 l0.length l0) (hc0 : l0.length ≤ c0) (h : impl_copyTubes.f k l0 = some r) :
  Calls Tryz.prog 76 #[.slice A0 l0.length c0] w fun e w' => ∃ v0_ : Value, e = .returned (v0_) ∧ Kd.S k33 33 w' w.heap.size (fun _ => True) v0_ r ∧ Below w.heap.size w w' := by
 have Z0 := Tryz.underlying33
 have Z1 := ra hr0
 have Z2 := ra hc0
 clear hr0 hc0
 have HB := ra (Below.refl w.heap.size w)
 have H := h; unfold impl_copyTubes.f at H
 clear h
 obtain ⟨Z3, hy_⟩ : ∃ y_ : List (S33), y_ = (([] : List (S33))) := ⟨_, rfl⟩
 replace H : (impl_copyTubes.l0 k Z3 l0 (l0.length : Int) 0) = some r := yh
 have Z4 := ra hy_
 clear hy_
 have H' := ra H; clear H
 go_enter Tryz.func76, Tryz.ntmps76
 go_wp2_with (first | ((with_reducible refine gd 6 rfl ?_); refine Kd.S_lit k33 _ 33 ?hg (N := 6) ?hd (xs := ([] : List (S33))) (inner := []) (ok := fun _ => True) (okp := fun _ => True) ?hr ?hp (fun _ hk => hk) trivial (Below.refl _ _) (Nat.le_refl _) (by simp) ?_; (case hd => rfl); (case hg => rfl); (case hr => first | (go_simp; done) | (go_simp; rfl)); (case hp => exact (Reps.none _ _)); intro Z5 Z6 Z7 hb hg_ hnew_; clear hg_ hnew_; (first | rw [← Z4.out] at Z7 | (simp only [Int.reduceToNat] at Z7; rw [← Z4.out] at Z7)); have Z8 := ra (Kd.S_lower Z7 (below_size bq)); replace HB := bs hb; clear hb Z7))
 go_loopg [3, 9] k (fun kq v3 v9 w' => ∃ (x3_1 : List (S33)) (x9_1 : Int), v9 = .int .i64 x9_1 ∧ Aside0 (impl_copyTubes.l0 kq x3_1 l0 (l0.length : Int) x9_1 = some r) ∧ Aside0 (kq ≤ k) ∧ Aside0 (Kd.S k33 33 w' w.heap.size (fun _ => True) v3 x3_1) ∧ Aside0 (Below w.heap.size w w'))
 case atStart => exact ⟨(Z3), (0), rs, H', ⟨Nat.le_refl _⟩, ⟨by (with_reducible repeat (first | apply Kd.S_alloc | apply Kd.S_drewN | apply Kd.S_drew)); exact Z8.out⟩, ⟨bq⟩⟩
 case round =>
  clear H'
  obtain ⟨Z9, Z10, rfl, HA, Z11, Z12, HB⟩ := hrel
  cases gk with
  | zero => exact absurd HA.out (by simp [impl_copyTubes.l0])
  | succ Z13 =>
   have H := HA.out
   clear HA
   simp only [impl_copyTubes.l0] at H
   rcases td H with ⟨Z14, H⟩ | ⟨Z14, H⟩
   ·obtain ⟨Z15, H⟩ := tn H
    obtain ⟨Z16, H⟩ := tn H
    obtain ⟨⟨Z17, Z18⟩, Z19, H⟩ := bo H
    try dsimp only at H
    by_cases Z20 : Z9.length < 3518437208883
    ·rw [if_pos Z20] at H
     have Z21 := ra Z20; clear Z20
     obtain ⟨Z22, hy_⟩ : ∃ y_ : List (S33), y_ = (Z9 ++ [(⟨Z17, Z18⟩ : S33)]) := ⟨_, rfl⟩
     replace H : (impl_copyTubes.l0 Z13 Z22 l0 (l0.length : Int) (wrap64 (Z10 + 1))) = some r := yh
     have Z23 := ra hy_
     clear hy_
     have H' := ra H; clear H
     have Z24 : 0 ≤ (Z10 : Int) := od
     have Z25 : Z10 < (l0.length : Int) := od
     obtain ⟨Z26, Z27, Z28, Z29, Z30, Z31, Z32, Z33⟩ := at_T33 Z1.out Z10 Z24 Z25
     cases Z29
     replace Z30 := hc HB Z30
     replace Z31 := hc HB Z31
     have Z34 := ra Z33
     have Z35 := ra Z32
     clear Z33 Z32
     replace Z24 := eq_true Z24
     replace Z25 := eq_true Z25
     go_wp2_with (first | ((with_reducible refine gd 5 rfl ?_); refine bf 5 #[.string (⟨#[]⟩ : ByteArray), .slice none 0 0] 33 ?_; intro Z36 Z37 hg hb HB Z38 Z39; replace Z12 := ra (Kd.S_below (Kd.S_elderB (by (with_reducible repeat (first | apply Kd.S_alloc | apply Kd.S_drewN | apply Kd.S_drew)); exact Z12.out) Z36 (Nat.le_of_eq hg.symm)) hb); obtain ⟨Z40, Z41, Z42, Z43⟩ := zc2 Z38; clear hg hb) | ((with_reducible refine gc 31 rfl ?_); refine gx (some 15) Tryz.func31 (impl_copyTube.calls _ _ _ _ _ _ _ (Kd.C_below Z34.out bq) Z35.out Z19.out) ?_; rintro Z44 Z45 ⟨Z46, hb⟩; have Z47 := ra (Kd.R_lower Z46 (below_size bq)); replace Z12 := ra (Kd.S_elder' (by (with_reducible repeat (first | apply Kd.S_alloc | apply Kd.S_drewN | apply Kd.S_drew)); exact (Kd.S_mono (Kd.S_far (p := ⟨Z36, 1, none⟩) (Kd.S_far (p := ⟨Z36, 0, none⟩) (Kd.S_mono Z12.out (fun k_ hk => (⟨hk, hk.2⟩ : _ ∧ k_ ≠ Z36))) (fun _ hk => hk.2) (.string ((rd_T33 l0 Z10).f0))) (fun _ hk => hk.2) (.slice Z27 ((rd_T33 l0 Z10).f1).length Z28)) (fun _ h_ => h_.1))) (Kd.R_base Z46) hb); replace Z38 := bb (o := .cells #[.string ((rd_T33 l0 Z10).f0), .slice Z27 ((rd_T33 l0 Z10).f1).length Z28] 33 (0, 0)) (bp Z38) hb; replace HB := bs hb; clear hb Z46; obtain ⟨Z48, Z49, Z50⟩ := Kd.R_slice Z47.out; subst Z50) | ((with_reducible refine gate_builtin (b := .append) (xs := #[.tmp 13, .tmp 16]) rfl ?_); at_builtin; refine Kd.S_append k33 (w0 := w) w.heap.size rfl (.tmp 13) (.tmp 16) 30 33 (.agg #[(.string ⟨#[]⟩), (.slice none 0 0)]) 40 rfl Tryz.underlying30 info33 rfl (by decide) (by omega) u3 Z9 (⟨Z17, Z18⟩ : S33) [.string Z17, .slice Z48 Z18.length Z49] (fun k_ => k_ ≠ Z36) (fun k_ => some k_ = (.slice Z48 Z18.length Z49 : Value).ownBlock) rfl rfl ?aP (fun k_ hk_ => ((Kd.R_mono (ok' := fun k_ => ((fun k_ => k_ ≠ Z36)) k_ ∧ some k_ ≠ (u3 : Value).ownBlock) (Kd.R_types (Kd.R_apart' (Z47.out) (Kd.S_typed Z12.out) (by decide)) Z38.out (by decide)) (fun k_ hk => ⟨hk.2, hk.1.2⟩))).1 k_ hk_.symm) ?aF ?aO ?aB ?aS ?aL ?_; (case aP => exact k33_mkM _ _ _ (⟨Z17, Z18⟩ : S33) (Kd.R_mono (Kd.R_tight rfl (Kd.R_mono (ok' := fun k_ => ((fun k_ => k_ ≠ Z36)) k_ ∧ some k_ ≠ (u3 : Value).ownBlock) (Kd.R_types (Kd.R_apart' (Z47.out) (Kd.S_typed Z12.out) (by decide)) Z38.out (by decide)) (fun k_ hk => ⟨hk.2, hk.1.2⟩))) (fun _ h_ => h_))); (case aB => exact bq); (case aF => exact (fun k_ hk => Kd.freshB (g := Z36) (o := .cells #[.string ((rd_T33 l0 Z10).f0), .slice Z27 ((rd_T33 l0 Z10).f1).length Z28] 33 (0, 0)) (bk Z38) k_ hk)); (case aO => exact (by (with_reducible repeat (first | apply Kd.S_alloc | apply Kd.S_drewN | apply Kd.S_drew)); exact Kd.S_mono Z12.out (fun k_ hk => ⟨hk.1.2, fun e_ => hk.2 e_⟩))); (case aS => exact (below_size bq)); (case aL => have := Z21.out; omega); intro Z51 Z52 ho hb hg hat; rw [← Z23.out] at ho; have _ := ra (blk_grown (g := Z36) (o := .cells #[.string ((rd_T33 l0 Z10).f0), .slice Z27 ((rd_T33 l0 Z10).f1).length Z28] 33 (0, 0)) (bk Z38) hg (Kd.S_away Z12.out (fun _ hk => hk.1.2))); have _ := ra (hb); have _ := ra (ho); clear Z38 HB Z12 Z47; rename_i Z38 HB Z53; clear ho hb hg hat))
     go_roundg Z13
     case measure => have := Z11.out; omega
     case rel => exact ⟨_, _, rs, H', ⟨by have := Z11.out; omega⟩, ⟨by (with_reducible repeat (first | apply Kd.S_alloc | apply Kd.S_drewN | apply Kd.S_drew)); exact Kd.S_mono Z53.out (fun _ hk => trivial)⟩, ⟨bq⟩⟩
    ·rw [if_neg Z20] at H
     exact absurd H (by simp)
   ·obtain rfl := Option.some.inj H
    go_wp2
    go_ret
    exact ⟨_, re, by (with_reducible repeat (first | apply Kd.S_alloc | apply Kd.S_drewN | apply Kd.S_drew)); exact Z12.out, bq⟩
def impl_ProbeHappen.T5 : Bool × List (List Nat × List Nat) := (true, [([], []), ([], []), ([1], [1]), ([0, 2], [0, 2]), ([3], [3]), ([4], [4]), ([4], [4]), ([5, 6, 4], [4, 5, 6]), ([7, 4], [4, 7]), ([8, 4], [4, 8]), ([4], [4]), ([10, 4], [4, 10]), ([11, 4], [4, 11]), ([9, 12, 4], [4, 9, 12]), ([4, 13], [4, 13]), ([14, 4, 0, 1, 2, 3, 4, 5, 6, 7, 8, 9, 10, 11, 12, 13, 14], [14])])
def impl_ProbeHappen.B5 : List Nat := [0, 0, 2, 7, 15, 31, 31, 127, 255, 511, 31, 1055, 3103, 8191, 16383, 32767]
theorem impl_ProbeHappen.tab5 : rtab .any (opsOf Tryz.f58 5) = impl_ProbeHappen.T5 := by kernel_rfl
theorem impl_ProbeHappen.bits5 : waitsOk impl_ProbeHappen.T5.2 impl_ProbeHappen.B5 = true := by kernel_rfl
def impl_ProbeHappen.T11 : Bool × List (List Nat × List Nat) := (true, [([], []), ([], []), ([0, 1], [0, 1]), ([], []), ([], []), ([4], [4]), ([3, 5], [3, 5]), ([2, 6], [2, 6]), ([7, 7, 0, 1, 2, 3, 4, 5, 6, 7], [7]), ([8, 0, 1, 2, 3, 4, 5, 6, 7, 8], [])])
def impl_ProbeHappen.B11 : List Nat := [0, 0, 3, 0, 0, 16, 56, 127, 255, 511]
theorem impl_ProbeHappen.tab11 : rtab .any (opsOf Tryz.f58 11) = impl_ProbeHappen.T11 := by kernel_rfl
theorem impl_ProbeHappen.bits11 : waitsOk impl_ProbeHappen.T11.2 impl_ProbeHappen.B11 = true := by kernel_rfl
def impl_ProbeHappen.T17 : Bool × List (List Nat × List Nat) := (true, [([], []), ([0], [0]), ([1], [1]), ([2], [2]), ([], []), ([], []), ([4, 5], [4, 5]), ([3, 6, 2], [3, 6]), ([7, 7, 0, 1, 2, 3, 4, 5, 6, 7], [7])])
def impl_ProbeHappen.B17 : List Nat := [0, 1, 3, 7, 0, 0, 48, 127, 255]
theorem impl_ProbeHappen.tab17 : rtab .any (opsOf Tryz.f58 17) = impl_ProbeHappen.T17 := by kernel_rfl
theorem impl_ProbeHappen.bits17 : waitsOk impl_ProbeHappen.T17.2 impl_ProbeHappen.B17 = true := by kernel_rfl
theorem impl_ProbeHappen.calls (k : Nat) (A0 : Option Addr) (c0 : Nat) (l0 : List (S33)) (a1_0 : Bool) (a1_1 : ByteArray) (A1_2 : Option Addr) (c1_2 : Nat) (l1_2 : List (S46)) (r1 : List (S33)) (r2 : Int) (w : World) (hr0 : Kd.C k33 w A0 l0.length l0) (hc0 : l0.length ≤ c0) (hr1_2 : Kd.C k46 w A1_2 l1_2.length l1_2) (hc1_2 : l1_2.length ≤ c1_2) (h : impl_ProbeHappen.f k l0 a1_0 a1_1 l1_2 = some (r1, r2)) :
  Calls Tryz.prog 58 #[.slice A0 l0.length c0, .agg #[.bool a1_0, .string a1_1, .slice A1_2 l1_2.length c1_2]] w fun e w' => ∃ v0_ : Value, e = .returned (.tuple #[v0_, .int .i64 r2]) ∧ Kd.S k33 33 w' w.heap.size (fun _ => True) v0_ r1 ∧ Below w.heap.size w w' := by
 have Z0 := Tryz.underlying55
 have Z1 := Tryz.underlying33
 have Z2 := ra hr0
 have Z3 := ra hc0
 clear hr0 hc0
 have Z4 := ra hr1_2
 have Z5 := ra hc1_2
 clear hr1_2 hc1_2
 have HB := ra (Below.refl w.heap.size w)
 have H := h; unfold impl_ProbeHappen.f at H
 clear h
 obtain ⟨Z6, Z7, H⟩ := bo H
 rcases ud H with ⟨rfl, Z8⟩ | ⟨rfl, Z8⟩ <;> have H := Z8
 ·obtain ⟨Z9, Z10, H⟩ := bo H
  obtain ⟨Z11, Z12, H⟩ := bo H
  have Z13 := ra H; clear H
  go_enter Tryz.func58, Tryz.ntmps58
  go_upto_region 5 with (first | ((with_reducible refine gd 2 rfl ?_); refine bd 2 #[.slice A0 l0.length c0] 30 ?_; intro Z14 Z15 HB Z16 Z17) | ((with_reducible refine gd 3 rfl ?_); refine bf 3 #[.bool a1_0, .string a1_1, .slice A1_2 l1_2.length c1_2] 55 ?_; intro Z18 Z19 hg hb HB Z20 Z21; have Z22 := bn hg (bk Z16); have Z23 := bm hg (bk Z16); replace Z16 := bb (bk Z16) hb; have Z24 := Z22.out; have Z25 := Z23.out; obtain ⟨Z26, Z27⟩ := zc1 Z16; clear hg hb) | ((with_reducible refine gc 60 rfl ?_); refine gy (some 11) Tryz.func60 (impl_ProbeSkyOk.calls _ _ _ _ _ _ (sc Z2) Z3.out Z7.out) ?_; rintro Z28 hb; replace Z16 := bb (bk Z16) hb; replace Z20 := bb (bk Z20) hb; replace HB := bs hb; clear hb; obtain ⟨Z29, Z30⟩ := zc1 Z16) | ((with_reducible refine gc 76 rfl ?_); refine gx (some 14) Tryz.func76 (impl_copyTubes.calls _ _ _ _ _ _ (sc Z2) Z3.out Z10.out) ?_; rintro Z31 Z32 ⟨Z33, hb⟩; have Z34 := ra (Kd.S_lower Z33 (below_size bq)); replace Z16 := bb (bk Z16) hb; replace Z20 := bb (bk Z20) hb; replace HB := bs hb; clear hb Z33; obtain ⟨Z35, Z36⟩ := zc1 Z16; have Z37 : Z32.cell? ⟨Z18, 0, none⟩ = some (.bool a1_0) := (blk_cell Z20.out 0).trans rfl; have Z38 : Z32.cell? ⟨Z18, 1, none⟩ = some (.string a1_1) := (blk_cell Z20.out 1).trans rfl; have Z39 : Z32.cell? ⟨Z18, 2, none⟩ = some (.slice A1_2 l1_2.length c1_2) := (blk_cell Z20.out 2).trans rfl; have Z40 := blk_frozen Z20.out 0; have Z41 := blk_frozen Z20.out 1; have Z42 := blk_frozen Z20.out 2) | ((with_reducible refine gc 77 rfl ?_); refine gy (some 18) Tryz.func77 (impl_search.calls _ _ _ _ _ _ _ (bk Z16) (bk Z20) (sc Z2) Z3.out Z12.out) ?_; rintro Z43 hb; replace Z34 := ra (Kd.S_below (by (with_reducible repeat (first | apply Kd.S_alloc | apply Kd.S_drewN | apply Kd.S_drew)); exact Z34.out) hb); replace Z16 := bb (bk Z16) hb; replace Z20 := bb (bk Z20) hb; replace HB := bs hb; clear hb))
  (try simp only [Act.put, List.setIfInBounds_toArray, List.set_cons_zero, List.set_cons_succ])
  go_cut [8] (fun v8 wc => ∃ (kq : Nat) (x8_6 : Bool), v8 = .bool x8_6 ∧ Aside0 (impl_ProbeHappen.j0 kq Z9 Z11 x8_6 l0 a1_0 a1_1 l1_2 = some (r1, r2)) ∧ Aside0 (kq ≤ k) ∧ Aside0 (Kd.S k33 33 wc w.heap.size (fun _ => True) Z31 Z9) ∧ Aside0 (wc.heap[Z14]? = some (.cells #[(.slice A0 l0.length c0)] 30 (0, 0))) ∧ Aside0 (wc.heap[Z18]? = some (.cells #[.bool a1_0, .string a1_1, (.slice A1_2 l1_2.length c1_2)] 55 (0, 0))) ∧ Aside0 (Below w.heap.size w wc))
  case first =>
   have H := Z13.out
   clear Z13
   rcases td H with ⟨Z44, H⟩ | ⟨Z44, H⟩
   ·(first | rw [Z44] | (simp only [i64_w, i32_w]; rw [Z44]) | skip)
    obtain ⟨Z45, H⟩ := tn H
    have H' := ra H; clear H
    try go_wp2
    have _ := ra (Kd.S_drew Z34.out)
    have _ := ra (blk_drew Z16.out)
    have _ := ra (blk_drew Z20.out)
    have _ := ra (below_drew1 HB.out)
    clear Z34 Z16 Z20 HB
    rename_i Z34 Z16 Z20 HB
    have Z46 : 0 ≤ (Z11 : Int) := od
    have Z47 : Z11 < (l0.length : Int) := od
    obtain ⟨Z48, Z49, Z50, Z51, Z52, Z53, Z54, Z55⟩ := at_T33 Z2.out Z11 Z46 Z47
    have Z56 := Z53
    have Z57 := Z52
    cases Z51
    replace Z52 := hc HB Z52
    replace Z53 := hc HB Z53
    have Z58 := ra Z55
    have Z59 := ra Z54
    clear Z55 Z54
    replace Z46 := eq_true Z46
    replace Z47 := eq_true Z47
    refine start_ (n := 16) (S := fun w' => w'.cell? ⟨Z14, 0, none⟩ = some (.slice (some Z48) l0.length c0) ∧ w'.cell? ⟨Z18, 0, none⟩ = some (.bool a1_0) ∧ w'.cell? ⟨Z18, 1, none⟩ = some (.string a1_1) ∧ w'.cell? ⟨Z18, 2, none⟩ = some (.slice A1_2 l1_2.length c1_2) ∧ w'.cell? (Z48.add ((Z11).toNat * 2)) = some (.string ((rd_T33 l0 Z11).f0)) ∧ w'.cell? ⟨(Z48.add ((Z11).toNat * 2)).block, (Z48.add ((Z11).toNat * 2)).off + 1, none⟩ = some (.slice Z49 ((rd_T33 l0 Z11).f1).length Z50)) (ds := []) (bl 16 0) (by kernel_rfl) rfl rfl ⟨(blk_cell Z16.out 0).trans rfl, (blk_cell Z20.out 0).trans rfl, (blk_cell Z20.out 1).trans rfl, (blk_cell Z20.out 2).trans rfl, (hc HB Z57), (hc HB Z56)⟩ (fun hHeld => ?_); refine with_tabW impl_ProbeHappen.tab5 impl_ProbeHappen.bits5 (fun HT_ HW_ => ?_)
    generalize Z43.drew = Z60 at Z34 Z16 Z20 HB Z58 Z52 Z53 hHeld ⊢
    refine pu 0 19 (bl 16 1) ?_
    refine tk 1 20 (bl 16 3) ?_ hHeld
    refine pu 2 21 (bl 16 7) ?_
    refine pu 3 22 (bl 16 15) ?_
    refine pu 4 23 (bl 16 31) ?_
    refine pu 6 25 (bl 16 95) ?_
    refine pu 10 29 (bl 16 1119) ?_
    refine pu 11 30 (bl 16 3167) ?_
    refine tk 5 24 (bl 16 3199) ?_ hHeld
    refine pu 7 26 (bl 16 3327) ?_
    refine pu 8 27 (bl 16 3583) ?_
    refine tk 9 28 (bl 16 4095) ?_ hHeld
    refine tk 12 31 (bl 16 8191) ?_ hHeld
    refine pu 13 32 (bl 16 16383) ?_
    refine pu 14 33 (bl 16 32767) ?_
    refine pu 15 8 (bl 16 65535) ?_
    refine done_ (done_of HT_.out (by kernel_rfl)) ?_
    try go_wp2
    go_meet
    case rel => exact ⟨_, _, rs, H', ⟨by first | omega | exact Nat.le_refl _⟩, ⟨by (with_reducible repeat (first | apply Kd.S_alloc | apply Kd.S_drewN | apply Kd.S_drew)); exact Z34.out⟩, ⟨bk Z16⟩, ⟨bk Z20⟩, ⟨bq⟩⟩
   ·(first | rw [Z44] | (simp only [i64_w, i32_w]; rw [Z44]) | skip)
    have H' := ra H; clear H
    try go_wp2
    have _ := ra (Kd.S_drew Z34.out)
    have _ := ra (blk_drew Z16.out)
    have _ := ra (blk_drew Z20.out)
    have _ := ra (below_drew1 HB.out)
    clear Z34 Z16 Z20 HB
    rename_i Z34 Z16 Z20 HB
    refine start_ (n := 16) (S := fun w' => w'.cell? ⟨Z14, 0, none⟩ = some (.slice A0 l0.length c0)) (ds := []) (bl 16 0) (by kernel_rfl) rfl rfl ((blk_cell Z16.out 0).trans rfl) (fun hHeld => ?_); refine with_tabW impl_ProbeHappen.tab5 impl_ProbeHappen.bits5 (fun HT_ HW_ => ?_)
    generalize Z43.drew = Z45 at Z34 Z16 Z20 HB hHeld ⊢
    refine pu 0 19 (bl 16 1) ?_
    refine take_ (i := 1) (N := some 20) (v := ?_) (a' := ?_) #[true, true, false, false, false, false, false, false, false, false, false, false, false, false, false, false] rfl rfl (take_ofW HT_.out HW_.out (by kernel_rfl)) (fun _ _ _ h => h) (Or.inl ⟨by rfl, ?_⟩) hHeld ?_ ?_
    rotate_left
    ·intro w' Z46
     go_simp
     with_reducible rfl
    rotate_left
    ·simp only [Act.put, List.setIfInBounds_toArray, List.set_cons_zero, List.set_cons_succ, i64_w, i32_w]
     rfl
    refine pu 2 21 (bl 16 7) ?_
    refine pu 3 22 (bl 16 15) ?_
    refine pu 4 23 (bl 16 31) ?_
    refine pv 5 24 (bl 16 63) ?_
    refine pv 6 25 (bl 16 127) ?_
    refine pv 7 26 (bl 16 255) ?_
    refine pv 8 27 (bl 16 511) ?_
    refine pv 9 28 (bl 16 1023) ?_
    refine pv 10 29 (bl 16 2047) ?_
    refine pv 11 30 (bl 16 4095) ?_
    refine pv 12 31 (bl 16 8191) ?_
    refine pv 13 32 (bl 16 16383) ?_
    refine pu 14 33 (bl 16 32767) ?_
    refine pu 15 8 (bl 16 65535) ?_
    refine done_ (done_of HT_.out (by kernel_rfl)) ?_
    try go_wp2
    go_meet
    case rel => exact ⟨_, _, rs, H', ⟨by first | omega | exact Nat.le_refl _⟩, ⟨by (with_reducible repeat (first | apply Kd.S_alloc | apply Kd.S_drewN | apply Kd.S_drew)); exact Z34.out⟩, ⟨bk Z16⟩, ⟨bk Z20⟩, ⟨bq⟩⟩
  case rest =>
   clear Z13
   try clear Z26
   try clear Z29
   try clear Z35
   try clear Z37
   try clear Z38
   try clear Z39
   try clear Z27
   try clear Z30
   try clear Z36
   try clear Z40
   try clear Z41
   try clear Z42
   obtain ⟨kq, Z44, rfl, HA, Z45, Z46, Z16, Z20, HB⟩ := hcut
   cases kq with
   | zero => exact absurd HA.out (by simp [impl_ProbeHappen.j0])
   | succ Z47 =>
    have H := HA.out
    clear HA
    simp only [impl_ProbeHappen.j0] at H
    have Z48 := ra H; clear H
    go_upto_region 6 with (fail)
    go_cut [34] (fun v34 wc => ∃ (kq : Nat) (x34_21 : Bool), v34 = .bool x34_21 ∧ Aside0 (impl_ProbeHappen.j1 kq Z9 Z11 Z44 x34_21 l0 a1_0 a1_1 l1_2 = some (r1, r2)) ∧ Aside0 (kq ≤ Z47) ∧ Aside0 (Kd.S k33 33 wc w.heap.size (fun _ => True) Z31 Z9) ∧ Aside0 (wc.heap[Z14]? = some (.cells #[(.slice A0 l0.length c0)] 30 (0, 0))) ∧ Aside0 (wc.heap[Z18]? = some (.cells #[.bool a1_0, .string a1_1, (.slice A1_2 l1_2.length c1_2)] 55 (0, 0))) ∧ Aside0 (Below w.heap.size w wc))
    case first =>
     have H := Z48.out
     clear Z48
     rcases ud H with ⟨rfl, Z49⟩ | ⟨rfl, Z49⟩ <;> have H := Z49
     ·have H' := ra H; clear H
      have Z50 := Z23.out
      have Z51 := Z22.out
      have Z52 : wc.cell? ⟨Z18, 0, none⟩ = some (.bool true) := (blk_cell Z20.out 0).trans rfl
      have Z53 : wc.cell? ⟨Z18, 1, none⟩ = some (.string a1_1) := (blk_cell Z20.out 1).trans rfl
      have Z54 : wc.cell? ⟨Z18, 2, none⟩ = some (.slice A1_2 l1_2.length c1_2) := (blk_cell Z20.out 2).trans rfl
      have Z55 := blk_frozen Z20.out 0
      have Z56 := blk_frozen Z20.out 1
      have Z57 := blk_frozen Z20.out 2
      go_wp2
      go_meet
      case rel => exact ⟨_, _, rs, H', ⟨by have := Z45.out; first | omega | exact Nat.le_refl _⟩, ⟨by (with_reducible repeat (first | apply Kd.S_alloc | apply Kd.S_drewN | apply Kd.S_drew)); exact Z46.out⟩, ⟨bk Z16⟩, ⟨bk Z20⟩, ⟨bq⟩⟩
     ·obtain ⟨Z50, Z51, H⟩ := bo H
      have H' := ra H; clear H
      have Z52 := Z23.out
      have Z53 := Z22.out
      have Z54 : wc.cell? ⟨Z18, 0, none⟩ = some (.bool false) := (blk_cell Z20.out 0).trans rfl
      have Z55 : wc.cell? ⟨Z18, 1, none⟩ = some (.string a1_1) := (blk_cell Z20.out 1).trans rfl
      have Z56 : wc.cell? ⟨Z18, 2, none⟩ = some (.slice A1_2 l1_2.length c1_2) := (blk_cell Z20.out 2).trans rfl
      have Z57 := blk_frozen Z20.out 0
      have Z58 := blk_frozen Z20.out 1
      have Z59 := blk_frozen Z20.out 2
      go_wp2_with (first | (go_at_call 61; (with_reducible refine (impl_ProbeTubeOk.calls _ _ _ _ _ _ _ ?side1 ?side2 Z51.out).mono ?_); (case side1 => exact sc Z4); (case side2 => exact Z5.out); rintro e Z60 ⟨rfl, hb⟩; replace Z46 := ra (Kd.S_below (by (with_reducible repeat (first | apply Kd.S_alloc | apply Kd.S_drewN | apply Kd.S_drew)); exact Z46.out) hb); replace Z16 := bb (bk Z16) hb; replace Z20 := bb (bk Z20) hb; replace HB := bs hb; clear hb))
      go_meet
      case rel => exact ⟨_, _, rs, H', ⟨by have := Z45.out; first | omega | exact Nat.le_refl _⟩, ⟨by (with_reducible repeat (first | apply Kd.S_alloc | apply Kd.S_drewN | apply Kd.S_drew)); exact Z46.out⟩, ⟨bk Z16⟩, ⟨bk Z20⟩, ⟨bq⟩⟩
    case rest =>
     clear Z48
     try clear Z26
     try clear Z29
     try clear Z35
     try clear Z37
     try clear Z38
     try clear Z39
     try clear Z27
     try clear Z30
     try clear Z36
     try clear Z40
     try clear Z41
     try clear Z42
     obtain ⟨kq, Z49, rfl, HA, Z50, Z46, Z16, Z20, HB⟩ := hcut
     cases kq with
     | zero => exact absurd HA.out (by simp [impl_ProbeHappen.j1])
     | succ Z51 =>
      have H := HA.out
      clear HA
      simp only [impl_ProbeHappen.j1] at H
      rcases ud H with ⟨rfl, Z52⟩ | ⟨rfl, Z52⟩ <;> have H := Z52
      ·simp only [Option.some.injEq, Prod.mk.injEq] at H
       obtain ⟨rfl, rfl⟩ := H
       go_wp2
       go_ret2
       exact ⟨_, re, by (with_reducible repeat (first | apply Kd.S_alloc | apply Kd.S_drewN | apply Kd.S_drew)); exact Z46.out, bq⟩
      ·have Z53 := ra H; clear H
       go_upto_region 8 with (fail)
       go_cut [45] (fun v45 wc => ∃ (kq : Nat) (x45_30 : Bool), v45 = .bool x45_30 ∧ Aside0 (impl_ProbeHappen.j2 kq Z9 Z11 Z44 x45_30 l0 a1_0 a1_1 l1_2 = some (r1, r2)) ∧ Aside0 (kq ≤ Z51) ∧ Aside0 (Kd.S k33 33 wc w.heap.size (fun _ => True) Z31 Z9) ∧ Aside0 (wc.heap[Z14]? = some (.cells #[(.slice A0 l0.length c0)] 30 (0, 0))) ∧ Aside0 (wc.heap[Z18]? = some (.cells #[.bool a1_0, .string a1_1, (.slice A1_2 l1_2.length c1_2)] 55 (0, 0))) ∧ Aside0 (Below w.heap.size w wc))
       case first =>
        have H := Z53.out
        clear Z53
        rcases ud H with ⟨rfl, Z54⟩ | ⟨rfl, Z54⟩ <;> have H := Z54
        have H' := ra H; clear H
        have Z55 := Z23.out
        have Z56 := Z22.out
        have Z57 : wc.cell? ⟨Z18, 0, none⟩ = some (.bool true) := (blk_cell Z20.out 0).trans rfl
        rotate_left
        have H' := ra H; clear H
        have Z55 := Z23.out
        have Z56 := Z22.out
        have Z57 : wc.cell? ⟨Z18, 0, none⟩ = some (.bool false) := (blk_cell Z20.out 0).trans rfl
        rotate_left
        all_goals
         have Z58 : wc.cell? ⟨Z18, 1, none⟩ = some (.string a1_1) := (blk_cell Z20.out 1).trans rfl
         have Z59 : wc.cell? ⟨Z18, 2, none⟩ = some (.slice A1_2 l1_2.length c1_2) := (blk_cell Z20.out 2).trans rfl
         have Z60 := blk_frozen Z20.out 0
         have Z61 := blk_frozen Z20.out 1
         have Z62 := blk_frozen Z20.out 2
         go_wp2
         go_meet
         case rel => exact ⟨_, _, rs, H', ⟨by have := Z45.out; have := Z50.out; first | omega | exact Nat.le_refl _⟩, ⟨by (with_reducible repeat (first | apply Kd.S_alloc | apply Kd.S_drewN | apply Kd.S_drew)); exact Z46.out⟩, ⟨bk Z16⟩, ⟨bk Z20⟩, ⟨bq⟩⟩
       case rest =>
        clear Z53
        try clear Z26
        try clear Z29
        try clear Z35
        try clear Z37
        try clear Z38
        try clear Z39
        try clear Z27
        try clear Z30
        try clear Z36
        try clear Z40
        try clear Z41
        try clear Z42
        obtain ⟨kq, Z54, rfl, HA, Z55, Z46, Z16, Z20, HB⟩ := hcut
        cases kq with
        | zero => exact absurd HA.out (by simp [impl_ProbeHappen.j2])
        | succ Z56 =>
         have H := HA.out
         clear HA
         simp only [impl_ProbeHappen.j2] at H
         rcases ud H with ⟨rfl, Z57⟩ | ⟨rfl, Z57⟩ <;> have H := Z57
         ·simp only [Option.some.injEq, Prod.mk.injEq] at H
          obtain ⟨rfl, rfl⟩ := H
          go_wp2
          go_ret2
          exact ⟨_, re, by (with_reducible repeat (first | apply Kd.S_alloc | apply Kd.S_drewN | apply Kd.S_drew)); exact Z46.out, bq⟩
         ·rcases ud H with ⟨rfl, Z58⟩ | ⟨rfl, Z58⟩ <;> have H := Z58
          ·by_cases Z59 : 0 ≤ Z11
           ·rw [if_pos Z59] at H
            have Z60 := eq_true Z59
            have Z61 : decide (0 ≤ Z11) = true := decide_eq_true Z59
            clear Z59
            by_cases Z62 : Z11 ≤ (Z9.length : Int)
            ·rw [if_pos Z62] at H
             have Z63 := eq_true Z62
             have Z64 : decide (Z11 ≤ (Z9.length : Int)) = true := decide_eq_true Z62
             clear Z62
             obtain ⟨Z65, hy_⟩ : ∃ y_ : List (S33), y_ = (Z9.take (Z11 : Int).toNat) := ⟨_, rfl⟩
             replace H : (if 0 ≤ (wrap64 (Z11 + 1)) then (if (wrap64 (Z11 + 1)) ≤ (Z9.length : Int) then (some ((Z9.eraseIdx (Z11 : Int).toNat), 0)) else (none)) else (none)) = some (r1, r2) := yh
             have Z66 := ra hy_
             clear hy_
             obtain ⟨Z67, Z68⟩ : ∃ j_ : Int, (wrap64 (Z11 + 1)) = j_ := ⟨_, rfl⟩
             replace H : (if 0 ≤ (Z67) then (if (Z67) ≤ (Z9.length : Int) then (some ((Z9.eraseIdx (Z11 : Int).toNat), 0)) else (none)) else (none)) = some (r1, r2) := by first | (rw [Z68] at H; exact H) | (simp only [Z68] at H ⊢; exact H)
             have Z69 : (IntKind.i64.wrap (Z11 + 1)) = Z67 := (i64_w _).trans Z68
             by_cases Z70 : 0 ≤ (Z67)
             ·rw [if_pos Z70] at H
              have Z71 := eq_true Z70
              have Z72 : decide (0 ≤ (Z67)) = true := decide_eq_true Z70
              clear Z70
              by_cases Z73 : (Z67) ≤ (Z9.length : Int)
              ·rw [if_pos Z73] at H
               have Z74 := eq_true Z73
               have Z75 : decide ((Z67) ≤ (Z9.length : Int)) = true := decide_eq_true Z73
               clear Z73
               obtain ⟨Z76, hy_⟩ : ∃ y_ : List (S33), y_ = (Z9.drop ((Z67) : Int).toNat) := ⟨_, rfl⟩
               replace H : (some ((Z9.eraseIdx (Z11 : Int).toNat), 0)) = some (r1, r2) := yh
               have Z77 := ra hy_
               clear hy_
               obtain ⟨Z78, hy_⟩ : ∃ y_ : List (S33), y_ = (Z9.eraseIdx (Z11 : Int).toNat) := ⟨_, rfl⟩
               replace H : (some (Z78, 0)) = some (r1, r2) := yh
               have Z79 := ra hy_
               clear hy_
               simp only [Option.some.injEq, Prod.mk.injEq] at H
               obtain ⟨rfl, rfl⟩ := H
               have Z80 := Z23.out
               have Z81 := Z22.out
               have Z82 : wc.cell? ⟨Z18, 0, none⟩ = some (.bool true) := (blk_cell Z20.out 0).trans rfl
               have Z83 : wc.cell? ⟨Z18, 1, none⟩ = some (.string a1_1) := (blk_cell Z20.out 1).trans rfl
               have Z84 : wc.cell? ⟨Z18, 2, none⟩ = some (.slice A1_2 l1_2.length c1_2) := (blk_cell Z20.out 2).trans rfl
               have Z85 := blk_frozen Z20.out 0
               have Z86 := blk_frozen Z20.out 1
               have Z87 := blk_frozen Z20.out 2
               try go_wp2
               have _ := ra (Kd.S_drew Z46.out)
               have _ := ra (blk_drew Z16.out)
               have _ := ra (blk_drew Z20.out)
               have _ := ra (below_drew1 HB.out)
               clear Z46 Z16 Z20 HB
               rename_i Z46 Z16 Z20 HB
               obtain ⟨Z88, Z89, Z90⟩ := Kd.S_slice Z46.out
               (first | subst Z90 | (injection Z90 with f1_ f2_ f3_; have Z91 := f1_.symm; have Z92 := f3_.symm; clear f1_ f2_ f3_; subst Z91; subst Z92))
               have Z93 : (Z11 : Int) ≤ ((Z9.length : Int) : Int) := od
               obtain ⟨Z94, Z95, _, Z96, _⟩ := info_parts info33
               have Z97 : Z9.length ≤ Z89 := (Kd.S_reads' Z46.out).2.1
               have Z98 : Kd.C k33 _ Z88 Z9.length Z9 := (Kd.S_reads' Z46.out).2.2
               have Z99 := cut_to (P := Tryz.prog) 30 33 .i64 Tryz.underlying30 Z95 Z88 Z9.length Z89 Z11 (od) Z93 Z97
               have Z100 := Kd.C_take (m := (Z11 : Int).toNat) Z98 (by omega)
               have Z101 : Z65.length = (Z11 : Int).toNat := (by rw [Z66.out, List.length_take]; omega)
               rw [← Z66.out] at Z100
               rw [← Z101] at Z99
               have Z102 := ra Z100
               have Z103 := ra (show Z65.length ≤ Z89 from by omega)
               clear Z100 Z98 Z97 Z95 Z96
               have Z104 := ra Z101; clear Z101
               have Z105 := ra (show (Z11 : Int).toNat ≤ Z9.length from by omega)
               replace Z93 := eq_true Z93
               have Z106 : ((Z67) : Int) ≤ ((Z9.length : Int) : Int) := od
               obtain ⟨Z107, Z108, _, Z109, _⟩ := info_parts info33
               have Z110 : Z9.length ≤ Z89 := (Kd.S_reads' Z46.out).2.1
               have Z111 : Kd.C k33 _ Z88 Z9.length Z9 := (Kd.S_reads' Z46.out).2.2
               have Z112 : (0 : Int) ≤ ((Z67) : Int) := od
               have Z113 := cut_from (P := Tryz.prog) 30 33 .i64 Tryz.underlying30 Z108 2 Z109 Z88 Z9.length Z89 (Z67) Z112 Z106
               have Z114 := Kd.C_drop (m := ((Z67) : Int).toNat) (c := Z89) Z111 (by omega) Z110
               obtain ⟨Z115, Z116⟩ : ∃ A1, A1 = (if Z89 = ((Z67) : Int).toNat then Z88 else (Z88 : Option Addr).map (·.add (((Z67) : Int).toNat * 2))) := ⟨_, rfl⟩
               obtain ⟨Z117, Z118⟩ : ∃ c1, c1 = Z89 - ((Z67) : Int).toNat := ⟨_, rfl⟩
               have Z119 : Z76.length = Z9.length - ((Z67) : Int).toNat := (by rw [Z77.out, List.length_drop] <;> omega)
               rw [show (Z9).drop ((Z67) : Int).toNat = Z76 from Z77.out.symm] at Z114
               replace Z114 : Kd.C k33 _ Z115 Z76.length Z76 := (by rw [Z116]; exact Z114)
               rw [← Z119, ← Z116, ← Z118] at Z113
               have Z120 := ra Z114
               have Z121 := ra (show Z76.length ≤ Z117 from by rw [Z119, Z118]; exact Nat.sub_le_sub_right Z110 _)
               clear Z114 Z111 Z110 Z108 Z109 Z118
               have Z122 := ra Z119
               have Z123 := ra Z116
               clear Z119 Z116
               have Z124 := ra (show ((Z67) : Int).toNat ≤ Z9.length from by omega)
               replace Z106 := eq_true Z106
               obtain ⟨Z125, Z126, Z127, Z128, Z129, Z130, Z131⟩ := Kd.S_form Z46.out (by have hj_ : 0 ≤ (Z11 : Int) := od; have hl_ : (Z67 : Int) ≤ (Z9.length : Int) := od; have hh_ : (Z11 : Int) ≤ (Z9.length : Int) := od; rw [← Z68] at hl_; unfold wrap64 at hl_; omega)
               (first | cases Z127 | (injection Z127 with ea_ en_ ec_; (first | subst ea_ | (injection ea_ with ea_; subst ea_)); subst ec_; clear en_))
               have Z132 := ra Z128
               have Z133 := ra Z131
               clear Z128 Z129 Z131
               refine start_ (n := 10) (S := fun w' => True) (ds := []) (bl 10 0) (by kernel_rfl) rfl rfl trivial (fun hHeld => ?_); refine with_tabW impl_ProbeHappen.tab11 impl_ProbeHappen.bits11 (fun HT_ HW_ => ?_)
               generalize wc.drew = Z134 at Z46 Z16 Z20 HB Z133 Z102 Z120 hHeld ⊢
               refine pu 0 56 (bl 10 1) ?_
               refine pu 1 57 (bl 10 3) ?_
               refine pu 2 58 (bl 10 7) ?_
               refine pu 3 59 (bl 10 15) ?_
               refine pu 4 60 (bl 10 31) ?_
               refine pu 5 61 (bl 10 63) ?_
               refine pu 6 62 (bl 10 127) ?_
               refine oe 7 63 (bl 10 255) (fun K hK => ?_)
               have hj_ : 0 ≤ (Z11 : Int) := od
               have hl_ : (Z67 : Int) ≤ (Z9.length : Int) := od
               have hh_ : (Z11 : Int) ≤ (Z9.length : Int) := od
               have hb_ := (Kd.S_reads' Z46.out).2.2.2.1
               have Z135 : (0 : Int) ≤ (Z67 : Int) := od
               have Z136 := Z104.out
               have hk_ : (Z67 : Int).toNat = Z65.length + 1 := (by have hw_ : (Z67 : Int) = Z11 + 1 := (by have Z137 := Z135; rw [← Z68] at Z137 ⊢; unfold wrap64 at Z137 ⊢; omega); rw [hw_]; omega)
               refine Kd.S_delete_step k33 (w0 := w) w.heap.size (by rfl) (.tmp 58) (.tmp 62) 30 33 rfl Tryz.underlying30 (by kernel_rfl) (g := Z125) (n := Z9.length) (c := Z89) (k := Z65.length) rfl rfl ?hA ?hm (by (with_reducible repeat (first | apply Kd.S_alloc | apply Kd.S_drewN | apply Kd.S_drew)); exact Z46.out) ?hk bq (below_size bq) ?_
               (case hA => have ha_ := Z123.out; rw [hk_] at ha_; exact ha_)
               (case hm => have ha_ := Z122.out; omega)
               (case hk => omega)
               intro Z138 ho hb hg
               clear hj_ hl_ hh_ hb_ hk_ Z135
               rw [Z136, ← Z79.out] at ho
               clear Z136
               have hn_ : Z9.length - 1 = Z78.length := (by have := (Kd.S_reads' ho).1; omega)
               rw [hn_] at ho ⊢
               clear hn_
               have _ := ra (ho)
               have _ := ra (blk_grown (g := Z14) (o := .cells #[.slice A0 l0.length c0] 30 (0, 0)) (bk Z16) hg (Kd.S_ne Z46.out Z16.out (by decide)))
               have _ := ra (blk_grown (g := Z18) (o := .cells #[.bool true, .string a1_1, .slice A1_2 l1_2.length c1_2] 55 (0, 0)) (bk Z20) hg (Kd.S_ne Z46.out Z20.out (by decide)))
               have _ := ra (hb)
               clear Z46 Z16 Z20 HB
               rename_i Z46 Z16 Z20 HB
               clear ho hb hg
               refine hK.out _ _ trivial (fun hHeld => ?_)
               clear hK K
               refine nm 63 ?_
               refine pu 8 4 (bl 10 511) ?_
               refine pu 9 5 (bl 10 1023) ?_
               refine done_ (done_of HT_.out (by kernel_rfl)) ?_
               try go_wp2
               go_ret2
               exact ⟨_, by first | rfl | (simp [errW_none, errW_some] <;> rfl) | (simp only [← Z68]; first | rfl | (simp [errW_none, errW_some] <;> rfl)) | (simp [*, errW_none, errW_some] <;> rfl), by (with_reducible repeat (first | apply Kd.S_alloc | apply Kd.S_drewN | apply Kd.S_drew)); exact Z46.out, bq⟩
              ·rw [if_neg Z73] at H
               exact absurd H (by simp)
             ·rw [if_neg Z70] at H
              exact absurd H (by simp)
            ·rw [if_neg Z62] at H
             exact absurd H (by simp)
           ·rw [if_neg Z59] at H
            exact absurd H (by simp)
          ·rcases ud H with ⟨rfl, Z59⟩ | ⟨rfl, Z59⟩ <;> have H := Z59
           ·obtain ⟨⟨Z60, Z61⟩, Z62, H⟩ := bo H
            try dsimp only at H
            obtain ⟨Z63, H⟩ := tn H
            obtain ⟨Z64, H⟩ := tn H
            obtain ⟨Z65, hy_⟩ : ∃ y_ : List (S33), y_ = (Z9.set (Z11 : Int).toNat (⟨Z60, Z61⟩ : S33)) := ⟨_, rfl⟩
            replace H : (some (Z65, 0)) = some (r1, r2) := yh
            have Z66 := ra hy_
            clear hy_
            simp only [Option.some.injEq, Prod.mk.injEq] at H
            obtain ⟨rfl, rfl⟩ := H
            have Z67 := Z23.out
            have Z68 := Z22.out
            have Z69 : wc.cell? ⟨Z18, 0, none⟩ = some (.bool false) := (blk_cell Z20.out 0).trans rfl
            have Z70 : wc.cell? ⟨Z18, 1, none⟩ = some (.string a1_1) := (blk_cell Z20.out 1).trans rfl
            have Z71 : wc.cell? ⟨Z18, 2, none⟩ = some (.slice A1_2 l1_2.length c1_2) := (blk_cell Z20.out 2).trans rfl
            have Z72 := blk_frozen Z20.out 0
            have Z73 := blk_frozen Z20.out 1
            have Z74 := blk_frozen Z20.out 2
            go_wp2_with (first | ((with_reducible refine gc 31 rfl ?_); refine gm (some 70) Tryz.func31 (impl_copyTube.calls _ _ _ _ _ _ _ (sc Z4) Z5.out Z62.out) ?_; rintro e Z75 ⟨Z76, rfl, Z33, hb⟩; obtain ⟨Z77, Z78, Z79⟩ := Kd.R_slice Z33; subst Z79; refine ⟨_, rfl, ?_⟩; have Z80 := ra (Kd.R_lower Z33 (below_size bq)); replace Z46 := ra (Kd.S_elder' (by (with_reducible repeat (first | apply Kd.S_alloc | apply Kd.S_drewN | apply Kd.S_drew)); exact Z46.out) (Kd.R_base Z33) hb); replace Z16 := bb (bk Z16) hb; replace Z20 := bb (bk Z20) hb; replace HB := bs hb; clear hb Z33; have Z81 : 0 ≤ (Z11 : Int) := od; have Z82 : (Z11 : Int) < ((Z9.length : Int) : Int) := od; obtain ⟨Z83, Z84, Z85, Z86, Z87, Z88, Z89⟩ := Kd.S_form Z46.out (by omega); (first | cases Z85 | (injection Z85 with ea_ en_ ec_; (first | subst ea_ | (injection ea_ with ea_; subst ea_)); subst ec_; clear en_)); have Z90 := Aside0.mk Z86; have Z91 := Aside0.mk Z89; clear Z86 Z87 Z89; obtain ⟨_, Z92, Z93, Z94, Z95, Z96, _, _⟩ := Kd.S_elem Z46.out z33 (Z11 : Int) Z81 Z82; obtain ⟨Z97, rfl, Z98⟩ := k33_openM Z94; have Z99 : Z75.cell? ⟨Z83, (Z11 : Int).toNat * 2, none⟩ = some (.string ((rd_T33 Z9 Z11).f0)) := Z95 0 _ rfl; have Z100 : Z75.cell? ⟨Z83, (Z11 : Int).toNat * 2 + 1, none⟩ = some (Z97) := Z95 1 _ rfl; have Z101 : Z75.frozen? ⟨Z83, (Z11 : Int).toNat * 2, none⟩ = false := Z96 0; have Z102 : Z75.frozen? ⟨Z83, (Z11 : Int).toNat * 2 + 1, none⟩ = false := Z96 1; clear Z93 Z95 Z96 Z94; replace Z81 := eq_true Z81; replace Z82 := eq_true Z82; have n_ := ra (Kd.S_mono (ok' := (fun k_ => some k_ ≠ ((.slice Z77 Z61.length Z78 : Value) : Value).ownBlock)) Z46.out (fun k_ hk => hk.2)); clear Z46; have Z46 := n_; clear n_; have Z103 := ra (show Kd.S k33 33 Z75 w.heap.size (fun k_ => ((fun _ => True)) k_ ∧ ¬ ((fun k_ => some k_ = ((.slice Z77 Z61.length Z78 : Value) : Value).ownBlock)) k_) (.slice (some ⟨Z83, 0, none⟩) Z9.length Z84) Z9 from (by (with_reducible repeat (first | apply Kd.S_alloc | apply Kd.S_drewN | apply Kd.S_drew)); exact Kd.S_mono Z46.out (fun k_ hk => ⟨trivial, fun e_ => hk e_⟩))); obtain ⟨Z104, Z105, Z106, Z107, Z108, Z109, Z110, Z111⟩ := Kd.S_elem Z103.out z33 (Z11 : Int) (od) (by have h_ : (Z11 : Int) < ((Z9.length : Int) : Int) := od; first | exact h_ | (have e_ := (Kd.S_reads' Z46.out).1; omega) | simpa using h_); obtain ⟨Z112, rfl, Z113⟩ := k33_openM Z107; have Z114 := Kd.S_seg Z111 (od) (by have h_ : (Z11 : Int) < ((Z9.length : Int) : Int) := od; first | exact h_ | (have e_ := (Kd.S_reads' Z46.out).1; omega) | simpa using h_) (seg := [.string Z60, (.slice Z77 Z61.length Z78 : Value)]) (j := 0) (show 2 ≤ 2 from by decide) (x' := (⟨Z60, Z61⟩ : S33)) (k33_mkM _ _ _ (⟨Z60, Z61⟩ : S33) (Kd.R_mono (Kd.R_tight rfl (Kd.R_mono (ok' := fun k_ => ((fun _ => True)) k_ ∧ k_ ≠ Z83) (Kd.R_apart' (Z80.out) (Kd.S_typed Z46.out) (by decide)) (fun k_ hk => ⟨trivial, fun e_ => (hk.2) (by rw [e_]; rfl)⟩))) (fun _ h_ => Or.inr (h_)))) (fun _ hk => hk) (fun k_ hk_ => ((Kd.R_mono (ok' := fun k_ => ((fun _ => True)) k_ ∧ k_ ≠ Z83) (Kd.R_apart' (Z80.out) (Kd.S_typed Z46.out) (by decide)) (fun k_ hk => ⟨trivial, fun e_ => (hk.2) (by rw [e_]; rfl)⟩))).1 k_ hk_.symm); have Z115 := Z108 0 _ rfl; (try simp only [show (k33).sz = 2 from rfl, Nat.mul_one, Nat.add_zero] at Z115); have Z116 := Z109 0; (try simp only [show (k33).sz = 2 from rfl, Nat.mul_one, Nat.add_zero] at Z116); have Z117 := Z108 1 _ rfl; (try simp only [show (k33).sz = 2 from rfl, Nat.mul_one, Nat.add_zero] at Z117); have Z118 := Z109 1; (try simp only [show (k33).sz = 2 from rfl, Nat.mul_one, Nat.add_zero] at Z118); clear Z106 Z108 Z109 Z107 Z110 Z111) | ((with_reducible refine gate_store (t := 33) (p := 71) rfl ?_); refine store_event (t := 33) (p := 71) (v := ?vo_w61) (w1 := ((Z75.setCell ⟨Z83, (Z11 : Int).toNat * 2, none⟩ (.string Z60)).setCell ⟨Z83, (Z11 : Int).toNat * 2 + 1, none⟩ ((.slice Z77 Z61.length Z78 : Value)))) ?hg ?ho ?hn ?hr ?_; (case ho => rfl); (case hg => rfl); (case hn => rfl); (case hr => first | (go_simp; done) | (go_simp; rfl)); intro Z119 hw; have hg : Z75.grownBy Z119 (some Z83) := (by rw [hw]; exact Z114.2); have hp_ : Kd.S k33 33 Z119 w.heap.size (fun _ => True) (.slice (some ⟨Z83, 0, none⟩) Z9.length Z84) Z65 := (by rw [hw, Z66.out]; exact Z114.1); clear Z114; have _ := ra (hp_); have _ := ra (blk_grown (g := Z14) (o := .cells #[.slice A0 l0.length c0] 30 (0, 0)) (bk Z16) hg (Kd.S_ne Z46.out Z16.out (by decide))); have _ := ra (blk_grown (g := Z18) (o := .cells #[.bool false, .string a1_1, .slice A1_2 l1_2.length c1_2] 55 (0, 0)) (bk Z20) hg (Kd.S_ne Z46.out Z20.out (by decide))); have _ := ra ((by rw [hw]; exact below_set (below_set (HB.out) Z90.out) Z90.out : Below w.heap.size w Z119)); clear Z46 Z16 Z20 HB Z80; rename_i Z46 Z16 Z20 HB; clear hg hw hp_))
            go_ret2
            exact ⟨_, re, by (with_reducible repeat (first | apply Kd.S_alloc | apply Kd.S_drewN | apply Kd.S_drew)); exact Z46.out, bq⟩
           ·rcases ed H with ⟨-, Z60, Z61, H⟩ | ⟨-, Z60, Z61, H⟩
            ·simp only [Option.some.injEq, Prod.mk.injEq] at H
             obtain ⟨rfl, rfl⟩ := H
             have Z62 := Z23.out
             have Z63 := Z22.out
             have Z64 : wc.cell? ⟨Z18, 0, none⟩ = some (.bool false) := (blk_cell Z20.out 0).trans rfl
             have Z65 : wc.cell? ⟨Z18, 1, none⟩ = some (.string a1_1) := (blk_cell Z20.out 1).trans rfl
             have Z66 : wc.cell? ⟨Z18, 2, none⟩ = some (.slice A1_2 l1_2.length c1_2) := (blk_cell Z20.out 2).trans rfl
             have Z67 := blk_frozen Z20.out 0
             have Z68 := blk_frozen Z20.out 1
             have Z69 := blk_frozen Z20.out 2
             obtain ⟨Z70, Z71⟩ := zc1 Z16
             go_wp2
             go_ret2
             exact ⟨_, re, by (with_reducible repeat (first | apply Kd.S_alloc | apply Kd.S_drewN | apply Kd.S_drew)); exact Z46.out, bq⟩
            ·obtain ⟨⟨Z62, Z63⟩, Z64, H⟩ := bo H
             try dsimp only at H
             by_cases Z65 : 0 ≤ Z11
             ·rw [if_pos Z65] at H
              by_cases Z66 : Z11 ≤ (Z9.length : Int)
              ·rw [if_pos Z66] at H
               have hsmall : Z9.length ≤ 1000 := by
                by_cases h : Z9.length ≤ 1000
                ·exact h
                ·rw [if_neg h] at H; cases H
               rw [if_pos hsmall] at H
               have HSM := ra hsmall; clear hsmall
               simp only [Option.some.injEq, Prod.mk.injEq] at H
               obtain ⟨rfl, rfl⟩ := H
               obtain ⟨n, hn⟩ : ∃ n : Nat, Z11 = (n : Int) := ⟨Z11.toNat, (Int.toNat_of_nonneg Z65).symm⟩
               subst hn
               have hnl : n ≤ Z9.length := by omega
               have Z67 := eq_true Z65
               have Z68 := eq_true Z66
               clear Z65 Z66
               have Z69 := Z23.out
               have Z70 := Z22.out
               have Z71 : wc.cell? ⟨Z18, 0, none⟩ = some (.bool false) := (blk_cell Z20.out 0).trans rfl
               have Z72 : wc.cell? ⟨Z18, 1, none⟩ = some (.string a1_1) := (blk_cell Z20.out 1).trans rfl
               have Z73 : wc.cell? ⟨Z18, 2, none⟩ = some (.slice A1_2 l1_2.length c1_2) := (blk_cell Z20.out 2).trans rfl
               have Z74 : wc.cell? ⟨Z14, 0, none⟩ = some (.slice A0 l0.length c0) := (blk_cell Z16.out 0).trans rfl
               have Z75 := blk_frozen Z20.out 0
               have Z76 := blk_frozen Z20.out 1
               have Z77 := blk_frozen Z20.out 2
               have Z78 := blk_frozen Z16.out 0
               try go_wp2
               have Z79 := ra (Kd.S_drew Z46.out)
               have Z80 := ra (blk_drew Z20.out)
               have Z81 := ra (below_drew1 HB.out)
               clear Z46 Z16 Z20 HB
               have Z46 := Z79
               have Z20 := Z80
               have HB := Z81
               clear Z79 Z80 Z81
               obtain ⟨Z82, Z83, Z84⟩ := Kd.S_slice Z46.out
               subst Z84
               have hroom := (Kd.S_reads' Z46.out).2.1
               obtain ⟨Z85, Z86, Z87, Z88, Z89⟩ := info_parts info33
               have hcut := cut_from (P := Tryz.prog) 30 33 .i64 Tryz.underlying30 Z86 2 Z88 Z82 Z9.length Z83 (n : Int) (by omega) (by omega)
               rw [Int.toNat_natCast] at hcut
               obtain ⟨Z90, Z91⟩ : ∃ A1, A1 = (if Z83 = n then Z82 else Z82.map (·.add (n * 2))) := ⟨_, rfl⟩
               rw [← Z91] at hcut
               have Z92 := ra Z91; clear Z91
               have HR_ := ra hroom
               have HL_ := ra hnl
               clear hroom hnl
               refine start_ (n := 9) (S := fun w' => w'.cell? ⟨Z18, 1, none⟩ = some (.string a1_1) ∧ w'.cell? ⟨Z18, 2, none⟩ = some (.slice A1_2 l1_2.length c1_2)) (ds := []) (bl 9 0) (by kernel_rfl) rfl rfl ⟨(blk_cell Z20.out 1).trans rfl, (blk_cell Z20.out 2).trans rfl⟩ (fun hHeld => ?_); refine with_tabW impl_ProbeHappen.tab17 impl_ProbeHappen.bits17 (fun HT_ HW_ => ?_)
               generalize wc.drew = Z93 at Z46 Z20 HB hHeld ⊢
               refine pu 0 78 (bl 9 1) ?_
               refine tk 1 79 (bl 9 3) ?_ hHeld
               refine pu 4 82 (bl 9 19) ?_
               refine pu 5 83 (bl 9 51) ?_
               refine pu 6 84 (bl 9 115) ?_
               refine oe 2 80 (bl 9 119) (fun K hK => ?_)
               refine gs Tryz.func31 #[.agg #[.string a1_1, .slice A1_2 l1_2.length c1_2]] ?_
               with_reducible refine (impl_copyTube.calls a1_1 _ _ l1_2 Z62 Z63 _ ?side1 ?side2 Z64.out).mono ?_
               (case side1 => exact sc Z4)
               (case side2 => exact Z5.out)
               rintro e Z94 ⟨Z95, rfl, Z33, hb⟩
               refine ⟨_, rfl, ?_⟩
               obtain ⟨Z96, Z97, Z98⟩ := Kd.R_slice Z33
               subst Z98
               have Z99 := ra Z33
               have Z100 := ra hb
               have Z79 := bb (o := .cells #[.bool false, .string a1_1, .slice A1_2 l1_2.length c1_2] 55 (0, 0)) Z20.out hb
               clear Z20
               have Z20 := Z79
               clear Z79 Z33 hb
               refine hK.out _ _ ⟨(blk_cell Z20.out 1).trans rfl, (blk_cell Z20.out 2).trans rfl⟩ (fun hHeld => ?_)
               clear hK K
               refine nm 80 ?_
               refine oe 3 81 (bl 9 127) (fun K hK => ?_)
               refine Kd.R_lit_step (Kd.raw 2) _ 33 ?hg (N := 81) ?hd (xs := [[.string Z62, .slice Z96 Z63.length Z97]]) (inner := [.string Z62, .slice Z96 Z63.length Z97]) (ok := fun _ => True) (okp := fun _ => True) ?hr ?hp (fun _ hk => hk) trivial (Below.refl _ _) (Nat.le_refl _) (by simp) ?_; (case hd => rfl); (case hg => rfl); (case hr => first | (go_simp; done) | (go_simp; rfl)); (case hp => exact Reps.snoc (ps := []) (cs := []) (Reps.none _ _) (show Kd.M (Kd.raw 2) _ _ _ [.string Z62, .slice Z96 Z63.length Z97] [.string Z62, .slice Z96 Z63.length Z97] from ⟨rfl, rfl, fun u hu => by simp only [List.mem_cons, List.not_mem_nil, or_false] at hu; rcases hu with rfl | rfl <;> rfl⟩) rfl)
               intro Z101 Z102 Z103 hb Z104 hnew_
               have Z105 := ra Z103
               have Z106 := ra Z104
               have Z107 := ra hnew_
               have Z108 := ra hb
               have Z79 := bb (o := .cells #[.bool false, .string a1_1, .slice A1_2 l1_2.length c1_2] 55 (0, 0)) Z20.out hb
               clear Z20
               have Z20 := Z79
               clear Z79 Z103 hb Z104 hnew_
               refine hK.out _ _ ⟨(blk_cell Z20.out 1).trans rfl, (blk_cell Z20.out 2).trans rfl⟩ (fun hHeld => ?_)
               clear hK K
               refine nm 81 ?_
               obtain ⟨Z109, Z110, Z111, Z112, Z113⟩ := Z46.out
               rw [List.length_zipIdx] at Z112
               have Z114 := Z113.1
               rw [List.length_zipIdx] at Z114
               have Z115 : ∀ k, k < Z93.heap.size → Z102.heap[k]? = Z93.heap[k]? := fun k hk => (Z108.out.block k (Nat.lt_of_lt_of_le hk Z100.out.size)).trans (Z100.out.block k hk)
               have Z116 := ra Z115; clear Z115
               obtain ⟨news, hnews⟩ : ∃ ns : List (List Value), ns = (List.range (Z9.length - n)).map fun j => (Z111.drop ((n + j) * 2)).take 2 := ⟨_, rfl⟩
               have HNW := ra hnews; clear hnews
               have Z117 := ra Z112
               have Z118 := ra Z113
               have Z119 := ra Z114
               clear Z110 Z112 Z113 Z114
               refine oe 7 85 (bl 9 255) (fun K hK => ?_)
               refine Kd.R_append_rows_step (Kd.raw 2) (w0 := Z94) Z94.heap.size (by rfl) (.tmp 81) (.tmp 84) 30 33 (.agg #[.string ⟨#[]⟩, .slice none 0 0]) 40 rfl Tryz.underlying30 info33 rfl (by decide) (by omega) Z101 [[.string Z62, .slice Z96 Z63.length Z97]] news _ _ _ (fun _ => True) (fun _ => False) rfl rfl ?aO ?aR (fun _ _ h => h) (fun _ h => h.elim) ?aF ?aB ?aS ?aL ?_
               (case aO => exact Z105.out)
               (case aF => exact (fun _ _ => trivial))
               (case aB => exact Z108.out)
               (case aS => exact Z108.out.size)
               (case aL => have := HSM.out; simp only [List.length_cons, List.length_nil]; omega)
               (case aR => rw [HNW.out, Z92.out]; exact Z.tail_reads Z117.out Z116.out (Z.reps_one (show 0 < 2 from by decide) Z118.out) HL_.out HSM.out)
               intro Z120 Z121 Z122 Z123 Z124 Z125
               have Z126 := ra Z122
               have Z127 := ra Z124
               have Z128 := ra Z123
               clear Z122 Z123 Z124 Z125
               have Z79 := ra (blk_grown (g := Z18) (o := .cells #[.bool false, .string a1_1, .slice A1_2 l1_2.length c1_2] 55 (0, 0)) Z20.out Z127.out (Kd.R_ne Z105.out Z20.out (by decide)))
               clear Z20
               have Z20 := Z79
               clear Z79
               refine hK.out _ _ ⟨(blk_cell Z20.out 1).trans rfl, (blk_cell Z20.out 2).trans rfl⟩ (fun hHeld => ?_)
               clear hK K
               refine nm 85 ?_
               refine pu 8 9 (bl 9 511) ?_
               refine done_ (done_of HT_.out (by kernel_rfl)) ?_
               obtain ⟨Z129, Z130, Z131, _, _, _⟩ := Kd.R_form Z126.out (by simp)
               subst Z131
               obtain ⟨_, Z132, Z133, Z134⟩ := Z126.out
               have Z135 : ∀ k, k < Z93.heap.size → Z121.heap[k]? = Z93.heap[k]? := fun k hk => (Z127.out.block k (Nat.lt_of_lt_of_le (Nat.lt_of_lt_of_le hk Z100.out.size) Z108.out.size) (fun he => by
                obtain ⟨b, hb, hle⟩ := Z107.out
                rw [hb] at he
                injection he with he
                have := Z100.out.size
                omega)).trans (Z116.out k hk)
               have Z136 := ra Z135; clear Z135
               have Z137 := ra Z133
               have Z138 := ra Z134
               clear Z133 Z134
               have hmax := Z.cut_max (P := Tryz.prog) 30 33 .i64 .i64 Tryz.underlying30 Z86 Z82 Z9.length Z83 n (Nat.le_trans HL_.out HR_.out)
               have Z139 : n + (([[.string Z62, .slice Z96 Z63.length Z97]] : List (List Value)) ++ news).length = Z9.length + 1 := by
                have := HL_.out
                rw [HNW.out, List.length_append, List.length_map, List.length_range, List.length_singleton]
                omega
               have HLN := ra Z139; clear Z139
               go_wp2_with (first | ((with_reducible refine gate_builtin (b := .append) (xs := #[.tmp 89, .tmp 90]) rfl ?_); at_builtin; refine wpList_append_grows Z121 rfl (.tmp 89) (.tmp 90) 30 rfl 33 Z85 (.agg #[.string ⟨#[]⟩, .slice none 0 0]) 2 40 Tryz.underlying30 Z86 Z87 Z88 Z89 rfl (by decide) Z82 n n (Z111.take (n * 2)) rfl ?hnone ?hlo ?holds ⟨Z129, 0, none⟩ _ _ Z132 rfl ?hn ?hc ?h1c ?hfull ?b1 ?b2 ?_; (case hnone => exact Z.own_none Z117.out HL_.out); (case hlo => have := HL_.out; have Z140 : Z111.length = Z9.length * 2 := Z119.out; rw [List.length_take]; omega); (case holds => exact Z.own_holds Z117.out Z136.out); (case hn => exact Z138.out.1); (case hc => exact Z137.out.cells rfl); (case h1c => exact Z.reps_one (show 0 < 2 from by decide) Z138.out); (case hfull => simp only [List.length_append, List.length_singleton]; omega); (case b1 => have := HLN.out; have := HSM.out; unfold maxLen; omega); (case b2 => have := HLN.out; have := HSM.out; omega); intro Z141 Z142 hown hgrow; have Z143 := Aside0.mk hown; have Z144 := Aside0.mk hgrow; clear hown hgrow))
               go_ret2
               have Z145 := Z100.out.size
               have Z146 := Z108.out.size
               have Z147 := Z127.out.size
               have Z148 : ∀ k, k < Z121.heap.size → Z142.heap[k]? = Z121.heap[k]? := fun k hk => Z144.out.block k hk (by simp)
               have hown := Z143.out
               rw [HLN.out] at hown
               refine ⟨_, rfl, ?_, Below.grown (below_step (below_step HB.out Z100.out) Z128.out) Z144.out (Nat.le_trans HB.out.size (Nat.le_trans Z145 Z128.out.size)) (fun k hk => by simp at hk)⟩
               ·refine Z.S_insert (d := k33) (W := Z93) (W2 := Z94) (f := Z109) (inner := Z111) (in85 := Z132) (c := [.string Z62, .slice Z96 Z63.length Z97]) (N := Z121.heap.size) HL_.out Z119.out (fun j p hj => k33.M_mono (fun _ hk => hk.2) (Z118.out.2 j (p, j) (Kd.zip_at hj))) (k33_mkM _ _ _ (⟨Z62, Z63⟩ : S33) Z99.out) (fun k hk => (Z148 k (by omega)).trans (Z136.out k hk)) (fun k hk => (Z148 k (by omega)).trans (Z128.out.block k hk)) Z145 Z128.out.size HB.out.size hown ?_ ?_ ?_
                ·have h := Z138.out.1
                 rw [HNW.out, List.length_append, List.length_map, List.length_range, List.length_singleton] at h
                 exact h
                ·exact (Z138.out.2 0 _ rfl).1
                ·intro j hj
                 refine (Z138.out.2 (j + 1) ((Z111.drop ((n + j) * 2)).take 2) ?_).1
                 rw [HNW.out, List.singleton_append, List.getElem?_cons_succ, List.getElem?_map, List.getElem?_range hj]
                 rfl
              ·rw [if_neg Z66] at H
               exact absurd H (by simp)
             ·rw [if_neg Z65] at H
              exact absurd H (by simp)
 ·simp only [Option.some.injEq, Prod.mk.injEq] at H
  obtain ⟨rfl, rfl⟩ := H
  go_enter Tryz.func58, Tryz.ntmps58
  go_wp2_with (first | ((with_reducible refine gd 2 rfl ?_); refine bd 2 #[.slice A0 l0.length c0] 30 ?_; intro Z9 Z10 HB Z11 Z12) | ((with_reducible refine gd 3 rfl ?_); refine bf 3 #[.bool a1_0, .string a1_1, .slice A1_2 l1_2.length c1_2] 55 ?_; intro Z13 Z14 hg hb HB Z15 Z16; have Z17 := bn hg (bk Z11); have Z18 := bm hg (bk Z11); replace Z11 := bb (bk Z11) hb; have Z19 := Z17.out; have Z20 := Z18.out; obtain ⟨Z21, Z22⟩ := zc1 Z11; clear hg hb) | ((with_reducible refine gc 60 rfl ?_); refine gy (some 11) Tryz.func60 (impl_ProbeSkyOk.calls _ _ _ _ _ _ (sc Z2) Z3.out Z7.out) ?_; rintro Z23 hb; replace Z11 := bb (bk Z11) hb; replace Z15 := bb (bk Z15) hb; replace HB := bs hb; clear hb))
  go_ret2
  exact ⟨_, re, by first | exact Kd.S_nil _ _ _ _ _ | exact Kd.N_nil _ _ _ _ _ | exact Kd.V_nil _ _ _ _ _ | exact Kd.Q_nil _ _ _ _ _ | exact Kd.R_nil _ _ _ _ _, bq⟩
end Go.Proofs.YtjelgpmhbaiipaaGreatDoor.PA
end
