/- Contracts of the program's and the reference's functions (they began as prints of the kit's tool; shortened and joined). No condition beside what the Lean functions say. -/
import Derived.Test.YtgklmafdbgnohaaGreatFPAd4
import Derived.Test.YtgklmafdbgnohaaGreatFZCx5
import Derived.Test.YtgklmafdbgnohaaGreatFZCv8
section
namespace Go.Proofs.YtgklmafdbgnohaaGreat.PA
open Go.RowKit Go.Proofs.YtgklmafdbgnohaaGreatW.PrintWords Go.Proofs.YtgklmafdbgnohaaGreatW.PrintLast Go.Proofs.YtgklmafdbgnohaaGreatW.PrintMore Go.Proofs.YtgklmafdbgnohaaGreat.Z
attribute [local go_sem] max2_int min2_int max_two min_two max_three min_three max_four min_four
set_option linter.unusedVariables false
set_option maxHeartbeats 8000000
set_option maxRecDepth 100000
set_option linter.unusedSimpArgs false
theorem spec_l5Before.calls (a0_0 a0_1 a0_2 a0_3 : Int) (a0_4 : ByteArray) (a0_5 a1_0 a1_1 a1_2 a1_3 : Int) (a1_4 : ByteArray) (a1_5 : Int) (r : Bool) (w : World) (h : spec_l5Before.f a0_0 a0_1 a0_2 a0_3 a0_4 a0_5 a1_0 a1_1 a1_2 a1_3 a1_4 a1_5 = some r) :
  Calls Tryz.prog 140 #[.agg #[.int .i64 a0_0, .int .i64 a0_1, .int .i64 a0_2, .int .i64 a0_3, .string a0_4, .int .i64 a0_5], .agg #[.int .i64 a1_0, .int .i64 a1_1, .int .i64 a1_2, .int .i64 a1_3, .string a1_4, .int .i64 a1_5]] w fun e w' => e = .returned (.bool r) ∧ Below w.heap.size w w' := by
 have Z0 := Tryz.underlying80
 have HB := ra (Below.refl w.heap.size w)
 have H := h; unfold spec_l5Before.f at H
 clear h
 rcases ed H with ⟨-, Z1, Z2, H⟩ | ⟨Z3, Z1, Z2, H⟩
 rcases ed H with ⟨-, Z4, Z5, H⟩ | ⟨Z6, Z4, Z5, H⟩
 rotate_left
 rotate_left
 rotate_left
 all_goals
  obtain rfl := Option.some.inj H
  go_enter Tryz.func140, Tryz.ntmps140
  go_wp2_with (first | ((with_reducible refine gd 2 rfl ?_); refine bd 2 #[.int .i64 a0_0, .int .i64 a0_1, .int .i64 a0_2, .int .i64 a0_3, .string a0_4, .int .i64 a0_5] 80 ?_; intro Z7 Z8 HB Z9 Z10) | ((with_reducible refine gd 3 rfl ?_); refine bf 3 #[.int .i64 a1_0, .int .i64 a1_1, .int .i64 a1_2, .int .i64 a1_3, .string a1_4, .int .i64 a1_5] 80 ?_; intro Z11 Z12 hg hb HB Z13 Z14; have Z15 := bn hg (bk Z9); have Z16 := bm hg (bk Z9); replace Z9 := bb (bk Z9) hb; have Z17 := Z15.out; have Z18 := Z16.out; obtain ⟨Z19, Z20, Z21, Z22, Z23, Z24, Z25, Z26, Z27, Z28, Z29, Z30⟩ := zc6 Z9; obtain ⟨Z31, Z32, Z33, Z34, Z35, Z36, Z37, Z38, Z39, Z40, Z41, Z42⟩ := zc6 Z13; clear hg hb))
  go_ret
  exact ⟨re, bq⟩
def spec_l5Slot.T2 : Bool × List (List Nat × List Nat) := (true, [([], []), ([], []), ([1], [1]), ([0, 2], [0, 2]), ([3], [3]), ([4], [4]), ([4], [4]), ([5, 6, 4], [4, 5, 6]), ([7, 4], [4, 7]), ([4], [4]), ([8, 9, 4, 4], [4, 8, 9]), ([4, 10], [4, 10])])
def spec_l5Slot.B2 : List Nat := [0, 0, 2, 7, 15, 31, 31, 127, 255, 31, 1023, 2047]
theorem spec_l5Slot.tab2 : rtab .any (opsOf Tryz.f117 2) = spec_l5Slot.T2 := by kernel_rfl
theorem spec_l5Slot.bits2 : waitsOk spec_l5Slot.T2.2 spec_l5Slot.B2 = true := by kernel_rfl
def spec_l5Slot.T4 : Bool × List (List Nat × List Nat) := (true, [([], []), ([], []), ([], []), ([1, 2], [1, 2]), ([0, 3], [0, 3]), ([], []), ([5], [5]), ([4, 6, 4], [4, 6]), ([], []), ([], []), ([8, 9], [8, 9]), ([7, 10, 7], [7, 10]), ([11, 11, 0, 1, 2, 3, 4, 5, 6, 7, 8, 9, 10, 11], [11])])
def spec_l5Slot.B4 : List Nat := [0, 0, 0, 6, 15, 0, 32, 127, 0, 0, 768, 2047, 4095]
theorem spec_l5Slot.tab4 : rtab .any (opsOf Tryz.f117 4) = spec_l5Slot.T4 := by kernel_rfl
theorem spec_l5Slot.bits4 : waitsOk spec_l5Slot.T4.2 spec_l5Slot.B4 = true := by kernel_rfl
theorem spec_l5Slot.calls (k : Nat) (A0 : Option Addr) (c0 : Nat) (l0 : List (S80)) (a1_0 a1_1 a1_2 a1_3 : Int) (a1_4 : ByteArray) (a1_5 : Int) (r : List (S80)) (w : World) (hr0 : Kd.C k80 w A0 l0.length l0) (hc0 : l0.length ≤ c0) (h : spec_l5Slot.f k l0 a1_0 a1_1 a1_2 a1_3 a1_4 a1_5 = some r) :
  Calls Tryz.prog 117 #[.slice A0 l0.length c0, .agg #[.int .i64 a1_0, .int .i64 a1_1, .int .i64 a1_2, .int .i64 a1_3, .string a1_4, .int .i64 a1_5]] w fun e w' => ∃ v0_ : Value, e = .returned (v0_) ∧ Kd.R k80 80 w' w.heap.size (fun _ => True) v0_ r ∧ Below w.heap.size w w' := by
 have Z0 := Tryz.underlying80
 have Z1 := ra hr0
 have Z2 := ra hc0
 clear hr0 hc0
 have HB := ra (Below.refl w.heap.size w)
 have H := h; unfold spec_l5Slot.f at H
 clear h
 have H' := ra H; clear H
 go_enter Tryz.func117, Tryz.ntmps117
 go_wp2_with (first | ((with_reducible refine gd 3 rfl ?_); refine bd 3 #[.int .i64 a1_0, .int .i64 a1_1, .int .i64 a1_2, .int .i64 a1_3, .string a1_4, .int .i64 a1_5] 80 ?_; intro Z3 Z4 HB Z5 Z6))
 go_loopg [5] k (fun kq v5 w' => ∃ (x5_1 : Int), v5 = .int .i64 x5_1 ∧ Aside0 (spec_l5Slot.l0 kq l0 x5_1 a1_0 a1_1 a1_2 a1_3 a1_4 a1_5 = some r) ∧ Aside0 (kq ≤ k) ∧ Aside0 (w'.heap[Z3]? = some (.cells #[.int .i64 a1_0, .int .i64 a1_1, .int .i64 a1_2, .int .i64 a1_3, .string a1_4, .int .i64 a1_5] 80 (0, 0))) ∧ Aside0 (Below w.heap.size w w'))
 case atStart => exact ⟨(0), rs, H', ⟨Nat.le_refl _⟩, ⟨bk Z5⟩, ⟨bq⟩⟩
 case round =>
  clear H'
  obtain ⟨Z7, rfl, HA, Z8, Z5, HB⟩ := hrel
  cases gk with
  | zero => exact absurd HA.out (by simp [spec_l5Slot.l0])
  | succ Z9 =>
   have H := HA.out
   clear HA
   simp only [spec_l5Slot.l0] at H
   rcases td H with ⟨Z10, H⟩ | ⟨Z10, H⟩
   ·obtain ⟨Z11, H⟩ := tn H
    obtain ⟨Z12, Z13, H⟩ := bo H
    rcases ud H with ⟨rfl, Z14⟩ | ⟨rfl, Z14⟩ <;> have H := Z14
    ·have H' := ra H; clear H
     try go_wp2
     have _ := ra (blk_drew Z5.out)
     have _ := ra (below_drew1 HB.out)
     clear Z5 HB
     rename_i Z5 HB
     have Z15 : 0 ≤ (Z7 : Int) := od
     have Z16 : Z7 < (l0.length : Int) := od
     obtain ⟨Z17, Z18, Z19, Z20, Z21, Z22, Z23, Z24⟩ := at_T80 Z1.out Z7 Z15 Z16
     have Z25 := Z24
     have Z26 := Z23
     have Z27 := Z22
     have Z28 := Z21
     have Z29 := Z20
     have Z30 := Z19
     cases Z18
     replace Z19 := hc HB Z19
     replace Z20 := hc HB Z20
     replace Z21 := hc HB Z21
     replace Z22 := hc HB Z22
     replace Z23 := hc HB Z23
     replace Z24 := hc HB Z24
     replace Z15 := eq_true Z15
     replace Z16 := eq_true Z16
     refine start_ (n := 12) (S := fun w' => w'.cell? ⟨Z3, 0, none⟩ = some (.int .i64 a1_0) ∧ w'.cell? ⟨Z3, 1, none⟩ = some (.int .i64 a1_1) ∧ w'.cell? ⟨Z3, 2, none⟩ = some (.int .i64 a1_2) ∧ w'.cell? ⟨Z3, 3, none⟩ = some (.int .i64 a1_3) ∧ w'.cell? ⟨Z3, 4, none⟩ = some (.string a1_4) ∧ w'.cell? ⟨Z3, 5, none⟩ = some (.int .i64 a1_5) ∧ w'.cell? (Z17.add ((Z7).toNat * 6)) = some (.int .i64 ((rd_T80 l0 Z7).f0)) ∧ w'.cell? ⟨(Z17.add ((Z7).toNat * 6)).block, (Z17.add ((Z7).toNat * 6)).off + 1, none⟩ = some (.int .i64 ((rd_T80 l0 Z7).f1)) ∧ w'.cell? ⟨(Z17.add ((Z7).toNat * 6)).block, (Z17.add ((Z7).toNat * 6)).off + 2, none⟩ = some (.int .i64 ((rd_T80 l0 Z7).f2)) ∧ w'.cell? ⟨(Z17.add ((Z7).toNat * 6)).block, (Z17.add ((Z7).toNat * 6)).off + 3, none⟩ = some (.int .i64 ((rd_T80 l0 Z7).f3)) ∧ w'.cell? ⟨(Z17.add ((Z7).toNat * 6)).block, (Z17.add ((Z7).toNat * 6)).off + 4, none⟩ = some (.string ((rd_T80 l0 Z7).f4)) ∧ w'.cell? ⟨(Z17.add ((Z7).toNat * 6)).block, (Z17.add ((Z7).toNat * 6)).off + 5, none⟩ = some (.int .i64 ((rd_T80 l0 Z7).f5))) (ds := []) (bl 12 0) (by kernel_rfl) rfl rfl ⟨(blk_cell Z5.out 0).trans rfl, (blk_cell Z5.out 1).trans rfl, (blk_cell Z5.out 2).trans rfl, (blk_cell Z5.out 3).trans rfl, (blk_cell Z5.out 4).trans rfl, (blk_cell Z5.out 5).trans rfl, (hc HB Z30), (hc HB Z29), (hc HB Z28), (hc HB Z27), (hc HB Z26), (hc HB Z25)⟩ (fun hHeld => ?_); refine with_tabW spec_l5Slot.tab2 spec_l5Slot.bits2 (fun HT_ HW_ => ?_)
     generalize wr.drew = Z31 at Z5 HB Z19 Z20 Z21 Z22 Z23 Z24 hHeld ⊢
     refine pu 0 6 (bl 12 1) ?_
     refine pu 1 7 (bl 12 3) ?_
     refine pu 2 8 (bl 12 7) ?_
     refine pu 3 9 (bl 12 15) ?_
     refine pu 4 10 (bl 12 31) ?_
     refine pu 5 11 (bl 12 63) ?_
     refine pu 6 12 (bl 12 127) ?_
     refine pu 7 13 (bl 12 255) ?_
     refine tk 8 14 (bl 12 511) ?_ hHeld
     refine tk 9 15 (bl 12 1023) ?_ hHeld
     refine oe 10 16 (bl 12 2047) (fun K hK => ?_)
     refine gs Tryz.func140 #[.agg #[.int .i64 ((rd_T80 l0 Z7).f0), .int .i64 ((rd_T80 l0 Z7).f1), .int .i64 ((rd_T80 l0 Z7).f2), .int .i64 ((rd_T80 l0 Z7).f3), .string ((rd_T80 l0 Z7).f4), .int .i64 ((rd_T80 l0 Z7).f5)], .agg #[.int .i64 a1_0, .int .i64 a1_1, .int .i64 a1_2, .int .i64 a1_3, .string a1_4, .int .i64 a1_5]] ?_
     with_reducible refine (spec_l5Before.calls ((rd_T80 l0 Z7).f0) ((rd_T80 l0 Z7).f1) ((rd_T80 l0 Z7).f2) ((rd_T80 l0 Z7).f3) ((rd_T80 l0 Z7).f4) ((rd_T80 l0 Z7).f5) a1_0 a1_1 a1_2 a1_3 a1_4 a1_5 true _ Z13.out).mono ?_
     rintro e Z32 ⟨rfl, hb⟩
     refine ⟨_, rfl, ?_⟩
     have _ := bb (bk Z5) hb
     have _ := bs hb
     clear Z5 HB
     rename_i Z5 HB
     (try clear hb)
     refine hK.out _ _ ⟨(blk_cell Z5.out 0).trans rfl, (blk_cell Z5.out 1).trans rfl, (blk_cell Z5.out 2).trans rfl, (blk_cell Z5.out 3).trans rfl, (blk_cell Z5.out 4).trans rfl, (blk_cell Z5.out 5).trans rfl, (hc HB Z30), (hc HB Z29), (hc HB Z28), (hc HB Z27), (hc HB Z26), (hc HB Z25)⟩ (fun hHeld => ?_)
     clear hK K
     refine nm 16 ?_
     refine pu 11 17 (bl 12 4095) ?_
     refine done_ (done_of HT_.out (by kernel_rfl)) ?_
     try go_wp2
     go_roundg Z9
     case measure => have := Z8.out; omega
     case rel => exact ⟨_, rs, H', ⟨by have := Z8.out; omega⟩, ⟨bk Z5⟩, ⟨bq⟩⟩
    ·obtain ⟨Z15, hy_⟩ : ∃ y_ : List (S80), y_ = (([] : List (S80))) := ⟨_, rfl⟩
     replace H : (if Z7 ≤ (l0.length : Int) then ((some (l0.take (Z7 : Int).toNat : List (S80))).bind fun y763 => (if Z15.length + y763.length < 2513169434916 then ((some (Z15 ++ y763 : List (S80))).bind fun y767 => ((some (([(⟨a1_0, a1_1, a1_2, a1_3, a1_4, a1_5⟩ : S80)] : List (S80)) : List (S80))).bind fun y770 => (if y767.length + y770.length < 2513169434916 then ((some (y767 ++ y770 : List (S80))).bind fun y773 => ((some (l0.drop (Z7 : Int).toNat : List (S80))).bind fun y776 => (if y773.length + y776.length < 2513169434916 then (some (y773 ++ y776)) else (none)))) else (none)))) else (none))) else (none)) = some r := yh
     have Z16 := ra hy_
     clear hy_
     have Z17 := eq_true (od : 0 ≤ Z7)
     by_cases Z18 : Z7 ≤ (l0.length : Int)
     ·rw [if_pos Z18] at H
      have Z19 := eq_true Z18
      have Z20 : decide (Z7 ≤ (l0.length : Int)) = true := decide_eq_true Z18
      clear Z18
      obtain ⟨Z21, hy_⟩ : ∃ y_ : List (S80), y_ = (l0.take (Z7 : Int).toNat) := ⟨_, rfl⟩
      replace H : (if Z15.length + Z21.length < 2513169434916 then ((some (Z15 ++ Z21 : List (S80))).bind fun y767 => ((some (([(⟨a1_0, a1_1, a1_2, a1_3, a1_4, a1_5⟩ : S80)] : List (S80)) : List (S80))).bind fun y770 => (if y767.length + y770.length < 2513169434916 then ((some (y767 ++ y770 : List (S80))).bind fun y773 => ((some (l0.drop (Z7 : Int).toNat : List (S80))).bind fun y776 => (if y773.length + y776.length < 2513169434916 then (some (y773 ++ y776)) else (none)))) else (none)))) else (none)) = some r := yh
      have Z22 := ra hy_
      clear hy_
      by_cases Z23 : Z15.length + Z21.length < 2513169434916
      ·rw [if_pos Z23] at H
       have Z24 := ra Z23; clear Z23
       obtain ⟨Z25, hy_⟩ : ∃ y_ : List (S80), y_ = (Z15 ++ Z21) := ⟨_, rfl⟩
       replace H : ((some (([(⟨a1_0, a1_1, a1_2, a1_3, a1_4, a1_5⟩ : S80)] : List (S80)) : List (S80))).bind fun y770 => (if Z25.length + y770.length < 2513169434916 then ((some (Z25 ++ y770 : List (S80))).bind fun y773 => ((some (l0.drop (Z7 : Int).toNat : List (S80))).bind fun y776 => (if y773.length + y776.length < 2513169434916 then (some (y773 ++ y776)) else (none)))) else (none))) = some r := yh
       have Z26 := ra hy_
       clear hy_
       obtain ⟨Z27, hy_⟩ : ∃ y_ : List (S80), y_ = (([(⟨a1_0, a1_1, a1_2, a1_3, a1_4, a1_5⟩ : S80)] : List (S80))) := ⟨_, rfl⟩
       replace H : (if Z25.length + Z27.length < 2513169434916 then ((some (Z25 ++ Z27 : List (S80))).bind fun y773 => ((some (l0.drop (Z7 : Int).toNat : List (S80))).bind fun y776 => (if y773.length + y776.length < 2513169434916 then (some (y773 ++ y776)) else (none)))) else (none)) = some r := yh
       have Z28 := ra hy_
       clear hy_
       by_cases Z29 : Z25.length + Z27.length < 2513169434916
       ·rw [if_pos Z29] at H
        have Z30 := ra Z29; clear Z29
        obtain ⟨Z31, hy_⟩ : ∃ y_ : List (S80), y_ = (Z25 ++ Z27) := ⟨_, rfl⟩
        replace H : ((some (l0.drop (Z7 : Int).toNat : List (S80))).bind fun y776 => (if Z31.length + y776.length < 2513169434916 then (some (Z31 ++ y776)) else (none))) = some r := yh
        have Z32 := ra hy_
        clear hy_
        have Z33 := eq_true (od : 0 ≤ Z7)
        have Z34 := eq_true (od : Z7 ≤ (l0.length : Int))
        obtain ⟨Z35, hy_⟩ : ∃ y_ : List (S80), y_ = (l0.drop (Z7 : Int).toNat) := ⟨_, rfl⟩
        replace H : (if Z31.length + Z35.length < 2513169434916 then (some (Z31 ++ Z35)) else (none)) = some r := yh
        have Z36 := ra hy_
        clear hy_
        by_cases Z37 : Z31.length + Z35.length < 2513169434916
        ·rw [if_pos Z37] at H
         have Z38 := ra Z37; clear Z37
         obtain ⟨Z39, hy_⟩ : ∃ y_ : List (S80), y_ = (Z31 ++ Z35) := ⟨_, rfl⟩
         replace H : (some Z39) = some r := yh
         have Z40 := ra hy_
         clear hy_
         obtain rfl := Option.some.inj H
         try go_wp2
         have _ := ra (blk_drew Z5.out)
         have _ := ra (below_drew1 HB.out)
         clear Z5 HB
         rename_i Z5 HB
         have Z41 : 0 ≤ (Z7 : Int) := od
         have Z42 : Z7 < (l0.length : Int) := od
         obtain ⟨Z43, Z44, Z45, Z46, Z47, Z48, Z49, Z50⟩ := at_T80 Z1.out Z7 Z41 Z42
         have Z51 := Z50
         have Z52 := Z49
         have Z53 := Z48
         have Z54 := Z47
         have Z55 := Z46
         have Z56 := Z45
         cases Z44
         replace Z45 := hc HB Z45
         replace Z46 := hc HB Z46
         replace Z47 := hc HB Z47
         replace Z48 := hc HB Z48
         replace Z49 := hc HB Z49
         replace Z50 := hc HB Z50
         replace Z41 := eq_true Z41
         replace Z42 := eq_true Z42
         refine start_ (n := 12) (S := fun w' => w'.cell? ⟨Z3, 0, none⟩ = some (.int .i64 a1_0) ∧ w'.cell? ⟨Z3, 1, none⟩ = some (.int .i64 a1_1) ∧ w'.cell? ⟨Z3, 2, none⟩ = some (.int .i64 a1_2) ∧ w'.cell? ⟨Z3, 3, none⟩ = some (.int .i64 a1_3) ∧ w'.cell? ⟨Z3, 4, none⟩ = some (.string a1_4) ∧ w'.cell? ⟨Z3, 5, none⟩ = some (.int .i64 a1_5) ∧ w'.cell? (Z43.add ((Z7).toNat * 6)) = some (.int .i64 ((rd_T80 l0 Z7).f0)) ∧ w'.cell? ⟨(Z43.add ((Z7).toNat * 6)).block, (Z43.add ((Z7).toNat * 6)).off + 1, none⟩ = some (.int .i64 ((rd_T80 l0 Z7).f1)) ∧ w'.cell? ⟨(Z43.add ((Z7).toNat * 6)).block, (Z43.add ((Z7).toNat * 6)).off + 2, none⟩ = some (.int .i64 ((rd_T80 l0 Z7).f2)) ∧ w'.cell? ⟨(Z43.add ((Z7).toNat * 6)).block, (Z43.add ((Z7).toNat * 6)).off + 3, none⟩ = some (.int .i64 ((rd_T80 l0 Z7).f3)) ∧ w'.cell? ⟨(Z43.add ((Z7).toNat * 6)).block, (Z43.add ((Z7).toNat * 6)).off + 4, none⟩ = some (.string ((rd_T80 l0 Z7).f4)) ∧ w'.cell? ⟨(Z43.add ((Z7).toNat * 6)).block, (Z43.add ((Z7).toNat * 6)).off + 5, none⟩ = some (.int .i64 ((rd_T80 l0 Z7).f5))) (ds := []) (bl 12 0) (by kernel_rfl) rfl rfl ⟨(blk_cell Z5.out 0).trans rfl, (blk_cell Z5.out 1).trans rfl, (blk_cell Z5.out 2).trans rfl, (blk_cell Z5.out 3).trans rfl, (blk_cell Z5.out 4).trans rfl, (blk_cell Z5.out 5).trans rfl, (hc HB Z56), (hc HB Z55), (hc HB Z54), (hc HB Z53), (hc HB Z52), (hc HB Z51)⟩ (fun hHeld => ?_); refine with_tabW spec_l5Slot.tab2 spec_l5Slot.bits2 (fun HT_ HW_ => ?_)
         generalize wr.drew = Z57 at Z5 HB Z45 Z46 Z47 Z48 Z49 Z50 hHeld ⊢
         refine pu 0 6 (bl 12 1) ?_
         refine pu 1 7 (bl 12 3) ?_
         refine pu 2 8 (bl 12 7) ?_
         refine pu 3 9 (bl 12 15) ?_
         refine pu 4 10 (bl 12 31) ?_
         refine pu 5 11 (bl 12 63) ?_
         refine pu 6 12 (bl 12 127) ?_
         refine pu 7 13 (bl 12 255) ?_
         refine tk 8 14 (bl 12 511) ?_ hHeld
         refine tk 9 15 (bl 12 1023) ?_ hHeld
         refine oe 10 16 (bl 12 2047) (fun K hK => ?_)
         refine gs Tryz.func140 #[.agg #[.int .i64 ((rd_T80 l0 Z7).f0), .int .i64 ((rd_T80 l0 Z7).f1), .int .i64 ((rd_T80 l0 Z7).f2), .int .i64 ((rd_T80 l0 Z7).f3), .string ((rd_T80 l0 Z7).f4), .int .i64 ((rd_T80 l0 Z7).f5)], .agg #[.int .i64 a1_0, .int .i64 a1_1, .int .i64 a1_2, .int .i64 a1_3, .string a1_4, .int .i64 a1_5]] ?_
         with_reducible refine (spec_l5Before.calls ((rd_T80 l0 Z7).f0) ((rd_T80 l0 Z7).f1) ((rd_T80 l0 Z7).f2) ((rd_T80 l0 Z7).f3) ((rd_T80 l0 Z7).f4) ((rd_T80 l0 Z7).f5) a1_0 a1_1 a1_2 a1_3 a1_4 a1_5 false _ Z13.out).mono ?_
         rintro e Z58 ⟨rfl, hb⟩
         refine ⟨_, rfl, ?_⟩
         have _ := bb (bk Z5) hb
         have _ := bs hb
         clear Z5 HB
         rename_i Z5 HB
         (try clear hb)
         refine hK.out _ _ ⟨(blk_cell Z5.out 0).trans rfl, (blk_cell Z5.out 1).trans rfl, (blk_cell Z5.out 2).trans rfl, (blk_cell Z5.out 3).trans rfl, (blk_cell Z5.out 4).trans rfl, (blk_cell Z5.out 5).trans rfl, (hc HB Z56), (hc HB Z55), (hc HB Z54), (hc HB Z53), (hc HB Z52), (hc HB Z51)⟩ (fun hHeld => ?_)
         clear hK K
         refine nm 16 ?_
         refine pu 11 17 (bl 12 4095) ?_
         refine done_ (done_of HT_.out (by kernel_rfl)) ?_
         try go_wp2
         have _ := ra (blk_drew Z5.out)
         have _ := ra (below_drew1 HB.out)
         clear Z5 HB
         rename_i Z5 HB
         have Z59 : (Z7 : Int) ≤ ((l0.length : Int) : Int) := od
         obtain ⟨Z60, Z61, _, Z62, _⟩ := info_parts info80
         have Z63 : l0.length ≤ c0 := Z2.out
         have Z64 : Kd.C k80 _ (some Z43) l0.length l0 := Z1.out
         have Z65 := cut_to (P := Tryz.prog) 78 80 .i64 Tryz.underlying78 Z61 (some Z43) l0.length c0 Z7 (od) Z59 Z63
         have Z66 := Kd.C_take (m := (Z7 : Int).toNat) Z64 (by omega)
         have Z67 : Z21.length = (Z7 : Int).toNat := (by rw [Z22.out, List.length_take]; omega)
         rw [← Z22.out] at Z66
         rw [← Z67] at Z65
         have Z68 := ra Z66
         have Z69 := ra (show Z21.length ≤ c0 from by omega)
         clear Z66 Z64 Z63 Z61 Z62
         have Z70 := ra Z67; clear Z67
         replace Z59 := eq_true Z59
         have Z71 : (Z7 : Int) ≤ ((l0.length : Int) : Int) := od
         obtain ⟨Z72, Z73, _, Z74, _⟩ := info_parts info80
         have Z75 : l0.length ≤ c0 := Z2.out
         have Z76 : Kd.C k80 _ (some Z43) l0.length l0 := Z1.out
         have Z77 : (0 : Int) ≤ (Z7 : Int) := od
         have Z78 := cut_from (P := Tryz.prog) 78 80 .i64 Tryz.underlying78 Z73 6 Z74 (some Z43) l0.length c0 Z7 Z77 Z71
         have Z79 := Kd.C_drop (m := (Z7 : Int).toNat) (c := c0) Z76 (by omega) Z75
         obtain ⟨Z80, Z81⟩ : ∃ A1, A1 = (if c0 = (Z7 : Int).toNat then (some Z43) else ((some Z43) : Option Addr).map (·.add ((Z7 : Int).toNat * 6))) := ⟨_, rfl⟩
         obtain ⟨Z82, Z83⟩ : ∃ c1, c1 = c0 - (Z7 : Int).toNat := ⟨_, rfl⟩
         have Z84 : Z35.length = l0.length - (Z7 : Int).toNat := (by rw [Z36.out, List.length_drop] <;> omega)
         rw [show (l0).drop (Z7 : Int).toNat = Z35 from Z36.out.symm] at Z79
         replace Z79 : Kd.C k80 _ Z80 Z35.length Z35 := (by rw [Z81]; exact Z79)
         rw [← Z84, ← Z81, ← Z83] at Z78
         have Z85 := ra Z79
         have Z86 := ra (show Z35.length ≤ Z82 from by rw [Z84, Z83]; exact Nat.sub_le_sub_right Z75 _)
         clear Z79 Z76 Z75 Z73 Z74 Z83
         have Z87 := ra Z84
         have Z88 := ra Z81
         clear Z84 Z81
         replace Z71 := eq_true Z71
         refine start_ (n := 13) (S := fun w' => w'.cell? ⟨Z3, 0, none⟩ = some (.int .i64 a1_0) ∧ w'.cell? ⟨Z3, 1, none⟩ = some (.int .i64 a1_1) ∧ w'.cell? ⟨Z3, 2, none⟩ = some (.int .i64 a1_2) ∧ w'.cell? ⟨Z3, 3, none⟩ = some (.int .i64 a1_3) ∧ w'.cell? ⟨Z3, 4, none⟩ = some (.string a1_4) ∧ w'.cell? ⟨Z3, 5, none⟩ = some (.int .i64 a1_5)) (ds := []) (bl 13 0) (by kernel_rfl) rfl rfl ⟨(blk_cell Z5.out 0).trans rfl, (blk_cell Z5.out 1).trans rfl, (blk_cell Z5.out 2).trans rfl, (blk_cell Z5.out 3).trans rfl, (blk_cell Z5.out 4).trans rfl, (blk_cell Z5.out 5).trans rfl⟩ (fun hHeld => ?_); refine with_tabW spec_l5Slot.tab4 spec_l5Slot.bits4 (fun HT_ HW_ => ?_)
         generalize Z58.drew = Z89 at Z5 HB Z68 Z85 hHeld ⊢
         refine pu 1 21 (bl 13 2) ?_
         refine pu 2 22 (bl 13 6) ?_
         refine pu 3 23 (bl 13 14) ?_
         refine pu 8 28 (bl 13 270) ?_
         refine pu 9 29 (bl 13 782) ?_
         refine pu 10 30 (bl 13 1806) ?_
         refine tk 5 25 (bl 13 1838) ?_ hHeld
         refine join_ (σ := Value × Value × Value) 3 #[true, true, true, true, true, true, true, false, true, true, true, false, false] (fun s_ => [(20, s_.1), (24, s_.2.1), (26, s_.2.2)]) (fun s_ w' => (w'.cell? ⟨Z3, 0, none⟩ = some (.int .i64 a1_0) ∧ w'.cell? ⟨Z3, 1, none⟩ = some (.int .i64 a1_1) ∧ w'.cell? ⟨Z3, 2, none⟩ = some (.int .i64 a1_2) ∧ w'.cell? ⟨Z3, 3, none⟩ = some (.int .i64 a1_3) ∧ w'.cell? ⟨Z3, 4, none⟩ = some (.string a1_4) ∧ w'.cell? ⟨Z3, 5, none⟩ = some (.int .i64 a1_5)) ∧ (Kd.R k80 80 w' w.heap.size (fun k_ => some k_ ≠ (s_.2.2 : Value).ownBlock ∧ k_ ≠ Z3) s_.2.1 Z25) ∧ (Kd.R k80 80 w' w.heap.size (fun k_ => some k_ ≠ (s_.2.1 : Value).ownBlock ∧ k_ ≠ Z3) s_.2.2 Z27) ∧ (w'.heap[Z3]? = some (.cells #[.int .i64 a1_0, .int .i64 a1_1, .int .i64 a1_2, .int .i64 a1_3, .string a1_4, .int .i64 a1_5] 80 (0, 0))) ∧ (Below w.heap.size w w')) ?_ ?_
         rotate_left
         ·intro hCont
          refine two_ (i := 0) (j := 6) (Ni := some 20) (Nj := some 26) #[true, true, true, true, false, true, false, false, true, true, true, false, false] #[false, true, true, true, false, true, true, false, true, true, true, false, false] rfl rfl rfl rfl (two_of HT_.out (by kernel_rfl)) (by decide) (by decide) (fun K hK => ?_) (fun K hK => ?_)
          ·skip
           refine Kd.R_lit_step k80 _ 80 ?hg (N := 20) ?hd (xs := ([] : List (S80))) (inner := []) (ok := fun _ => True) (okp := fun _ => True) ?hr ?hp (fun _ hk => hk) trivial (Below.refl _ _) (Nat.le_refl _) (by simp) ?_; (case hd => rfl); (case hg => rfl); (case hr => first | (go_simp; done) | (go_simp; rfl)); (case hp => exact (Reps.none _ _))
           intro Z90 Z91 Z92 hb hg_ hnew_
           clear hg_ hnew_
           (first | rw [← Z16.out] at Z92 | (simp only [Int.reduceToNat] at Z92; rw [← Z16.out] at Z92))
           have _ := ra (Kd.R_lower (Kd.R_newB Z92 (g := Z3) (o := .cells #[.int .i64 a1_0, .int .i64 a1_1, .int .i64 a1_2, .int .i64 a1_3, .string a1_4, .int .i64 a1_5] 80 (0, 0)) (bk Z5)) (below_size bq))
           have _ := bb (bk Z5) hb
           have _ := bs hb
           clear Z5 HB
           rename_i Z93 Z5 HB
           clear hb Z92
           refine hK.out _ _ ⟨(blk_cell Z5.out 0).trans rfl, (blk_cell Z5.out 1).trans rfl, (blk_cell Z5.out 2).trans rfl, (blk_cell Z5.out 3).trans rfl, (blk_cell Z5.out 4).trans rfl, (blk_cell Z5.out 5).trans rfl⟩ (fun hHeld => ?_)
           clear hK K
           refine nm 20 ?_
           refine two_ (i := 4) (j := 6) (Ni := some 24) (Nj := some 26) #[true, true, true, true, true, true, false, false, true, true, true, false, false] #[true, true, true, true, false, true, true, false, true, true, true, false, false] rfl rfl rfl rfl (two_of HT_.out (by kernel_rfl)) (by decide) (by decide) (fun K hK => ?_) (fun K hK => ?_)
           ·skip
            refine Kd.R_append_rows_step k80 (w0 := w) w.heap.size (by rfl) (.tmp 20) (.tmp 23) 78 80 (.agg #[(.int .i64 0), (.int .i64 0), (.int .i64 0), (.int .i64 0), (.string ⟨#[]⟩), (.int .i64 0)]) 56 rfl Tryz.underlying78 info80 rfl (by decide) (by omega) Z90 Z15 Z21 _ _ _ (fun k_ => k_ ≠ Z3) (fun _ => False) rfl rfl ?aO ?aR (fun _ _ h => h) (fun _ h => h.elim) ?aF ?aB ?aS ?aL ?_
            (case aR => exact sc Z68)
            (case aB => exact bq)
            (case aF => exact (fun k_ hk => Kd.freshB (g := Z3) (o := .cells #[.int .i64 a1_0, .int .i64 a1_1, .int .i64 a1_2, .int .i64 a1_3, .string a1_4, .int .i64 a1_5] 80 (0, 0)) (bk Z5) k_ hk))
            (case aO => exact (by (with_reducible repeat (first | apply Kd.R_alloc | apply Kd.R_drewN | apply Kd.R_drew)); exact Kd.R_mono Z93.out (fun _ hk => hk.2)))
            (case aS => exact (below_size bq))
            (case aL => have := Z24.out; omega)
            intro Z94 Z95 ho hb hg hat
            rw [← Z26.out] at ho
            have _ := ra (blk_grown (g := Z3) (o := .cells #[.int .i64 a1_0, .int .i64 a1_1, .int .i64 a1_2, .int .i64 a1_3, .string a1_4, .int .i64 a1_5] 80 (0, 0)) (bk Z5) hg (Kd.R_away Z93.out (fun _ hk => hk.2)))
            have _ := ra (hb)
            have _ := ra (ho)
            clear Z5 HB Z93
            rename_i Z5 HB Z96
            clear ho hb hg hat
            refine hK.out _ _ ⟨(blk_cell Z5.out 0).trans rfl, (blk_cell Z5.out 1).trans rfl, (blk_cell Z5.out 2).trans rfl, (blk_cell Z5.out 3).trans rfl, (blk_cell Z5.out 4).trans rfl, (blk_cell Z5.out 5).trans rfl⟩ (fun hHeld => ?_)
            clear hK K
            refine nm 24 ?_
            refine oe 6 26 (bl 13 1919) (fun K hK => ?_)
            refine Kd.R_lit_step k80 _ 80 ?hg (N := 26) ?hd (xs := ([(⟨a1_0, a1_1, a1_2, a1_3, a1_4, a1_5⟩ : S80)] : List (S80))) (inner := [.int .i64 a1_0, .int .i64 a1_1, .int .i64 a1_2, .int .i64 a1_3, .string a1_4, .int .i64 a1_5]) (ok := fun _ => True) (okp := fun _ => True) ?hr ?hp (fun _ hk => hk) trivial (Below.refl _ _) (Nat.le_refl _) (by simp) ?_; (case hd => rfl); (case hg => rfl); (case hr => first | (go_simp; done) | (go_simp; rfl)); (case hp => exact (Reps.c6 (show Kd.M k80 _ _ _ (⟨a1_0, a1_1, a1_2, a1_3, a1_4, a1_5⟩ : S80) [.int .i64 a1_0, .int .i64 a1_1, .int .i64 a1_2, .int .i64 a1_3, .string a1_4, .int .i64 a1_5] from (k80_mkM _ _ _ (⟨a1_0, a1_1, a1_2, a1_3, a1_4, a1_5⟩ : S80) )) (Reps.none _ _)))
            intro Z97 Z98 Z99 hb hg_ hnew_
            clear hg_ hnew_
            (first | rw [← Z28.out] at Z99 | (simp only [Int.reduceToNat] at Z99; rw [← Z28.out] at Z99))
            have _ := ra (Kd.R_elder' (rq Z96) (Kd.R_base Z99) hb)
            have _ := ra (Kd.R_lower (Kd.R_newB (Kd.R_new' Z99 (Kd.R_lt (rq Z96))) (g := Z3) (o := .cells #[.int .i64 a1_0, .int .i64 a1_1, .int .i64 a1_2, .int .i64 a1_3, .string a1_4, .int .i64 a1_5] 80 (0, 0)) (bk Z5)) (below_size bq))
            have _ := bb (bk Z5) hb
            have _ := bs hb
            clear Z96 Z5 HB
            rename_i Z96 Z100 Z5 HB
            clear hb Z99
            refine hK.out _ _ ⟨(blk_cell Z5.out 0).trans rfl, (blk_cell Z5.out 1).trans rfl, (blk_cell Z5.out 2).trans rfl, (blk_cell Z5.out 3).trans rfl, (blk_cell Z5.out 4).trans rfl, (blk_cell Z5.out 5).trans rfl⟩ (fun hHeld => ?_)
            clear hK K
            refine nm 26 ?_
            exact norm_ (by simp only [putAll, Act.put, List.setIfInBounds_toArray, List.set_cons_zero, List.set_cons_succ]) (hCont (Z90, Z94, Z97) _ ⟨hHeld, (by (with_reducible repeat (first | apply Kd.R_alloc | apply Kd.R_drewN | apply Kd.R_drew)); exact Kd.R_mono Z96.out (fun _ hk => ⟨hk.2, hk.1⟩)), (by (with_reducible repeat (first | apply Kd.R_alloc | apply Kd.R_drewN | apply Kd.R_drew)); exact Kd.R_mono Z100.out (fun _ hk => ⟨hk.1.2, hk.2⟩)), (bk Z5), bq⟩)
           ·skip
            refine Kd.R_lit_step k80 _ 80 ?hg (N := 26) ?hd (xs := ([(⟨a1_0, a1_1, a1_2, a1_3, a1_4, a1_5⟩ : S80)] : List (S80))) (inner := [.int .i64 a1_0, .int .i64 a1_1, .int .i64 a1_2, .int .i64 a1_3, .string a1_4, .int .i64 a1_5]) (ok := fun _ => True) (okp := fun _ => True) ?hr ?hp (fun _ hk => hk) trivial (Below.refl _ _) (Nat.le_refl _) (by simp) ?_; (case hd => rfl); (case hg => rfl); (case hr => first | (go_simp; done) | (go_simp; rfl)); (case hp => exact (Reps.c6 (show Kd.M k80 _ _ _ (⟨a1_0, a1_1, a1_2, a1_3, a1_4, a1_5⟩ : S80) [.int .i64 a1_0, .int .i64 a1_1, .int .i64 a1_2, .int .i64 a1_3, .string a1_4, .int .i64 a1_5] from (k80_mkM _ _ _ (⟨a1_0, a1_1, a1_2, a1_3, a1_4, a1_5⟩ : S80) )) (Reps.none _ _)))
            intro Z94 Z95 Z96 hb hg_ hnew_
            clear hg_ hnew_
            (first | rw [← Z28.out] at Z96 | (simp only [Int.reduceToNat] at Z96; rw [← Z28.out] at Z96))
            have _ := ra (Kd.R_elder' (rq Z93) (Kd.R_base Z96) hb)
            have _ := ra (Kd.R_lower (Kd.R_newB (Kd.R_new' Z96 (Kd.R_lt (rq Z93))) (g := Z3) (o := .cells #[.int .i64 a1_0, .int .i64 a1_1, .int .i64 a1_2, .int .i64 a1_3, .string a1_4, .int .i64 a1_5] 80 (0, 0)) (bk Z5)) (below_size bq))
            have _ := bb (bk Z5) hb
            have _ := bs hb
            clear Z93 Z5 HB
            rename_i Z93 Z97 Z5 HB
            clear hb Z96
            refine hK.out _ _ ⟨(blk_cell Z5.out 0).trans rfl, (blk_cell Z5.out 1).trans rfl, (blk_cell Z5.out 2).trans rfl, (blk_cell Z5.out 3).trans rfl, (blk_cell Z5.out 4).trans rfl, (blk_cell Z5.out 5).trans rfl⟩ (fun hHeld => ?_)
            clear hK K
            refine nm 26 ?_
            refine oe 4 24 (bl 13 1919) (fun K hK => ?_)
            refine Kd.R_append_rows_step k80 (w0 := w) w.heap.size (by rfl) (.tmp 20) (.tmp 23) 78 80 (.agg #[(.int .i64 0), (.int .i64 0), (.int .i64 0), (.int .i64 0), (.string ⟨#[]⟩), (.int .i64 0)]) 56 rfl Tryz.underlying78 info80 rfl (by decide) (by omega) Z90 Z15 Z21 _ _ _ (fun k_ => some k_ ≠ (Z94 : Value).ownBlock ∧ k_ ≠ Z3) (fun _ => False) rfl rfl ?aO ?aR (fun _ _ h => h) (fun _ h => h.elim) ?aF ?aB ?aS ?aL ?_
            (case aR => exact sc Z68)
            (case aB => exact bq)
            (case aF => exact (fun k_ hk => ⟨Kd.fresh' (Kd.R_lt (rq Z97)) k_ hk, Kd.freshB (g := Z3) (o := .cells #[.int .i64 a1_0, .int .i64 a1_1, .int .i64 a1_2, .int .i64 a1_3, .string a1_4, .int .i64 a1_5] 80 (0, 0)) (bk Z5) k_ hk⟩))
            (case aO => exact (by (with_reducible repeat (first | apply Kd.R_alloc | apply Kd.R_drewN | apply Kd.R_drew)); exact Kd.R_mono Z93.out (fun _ hk => ⟨hk.2, hk.1.2⟩)))
            (case aS => exact (below_size bq))
            (case aL => have := Z24.out; omega)
            intro Z98 Z99 ho hb hg hat
            rw [← Z26.out] at ho
            have _ := ra (blk_grown (g := Z3) (o := .cells #[.int .i64 a1_0, .int .i64 a1_1, .int .i64 a1_2, .int .i64 a1_3, .string a1_4, .int .i64 a1_5] 80 (0, 0)) (bk Z5) hg (Kd.R_away Z93.out (fun _ hk => hk.1.2)))
            have _ := ra (Kd.R_after (ok := (fun k_ => k_ ≠ Z3)) (by (with_reducible repeat (first | apply Kd.R_alloc | apply Kd.R_drewN | apply Kd.R_drew)); exact Kd.R_mono Z97.out (fun _ hk => ⟨hk.2, hk.1.2⟩)) hg hat)
            have _ := ra (hb)
            have _ := ra (ho)
            clear Z5 Z97 HB Z93
            rename_i Z5 Z97 HB Z100
            clear ho hb hg hat
            refine hK.out _ _ ⟨(blk_cell Z5.out 0).trans rfl, (blk_cell Z5.out 1).trans rfl, (blk_cell Z5.out 2).trans rfl, (blk_cell Z5.out 3).trans rfl, (blk_cell Z5.out 4).trans rfl, (blk_cell Z5.out 5).trans rfl⟩ (fun hHeld => ?_)
            clear hK K
            refine nm 24 ?_
            exact norm_ (by simp only [putAll, Act.put, List.setIfInBounds_toArray, List.set_cons_zero, List.set_cons_succ]) (hCont (Z90, Z98, Z94) _ ⟨hHeld, (rq Z100), (by (with_reducible repeat (first | apply Kd.R_alloc | apply Kd.R_drewN | apply Kd.R_drew)); exact Kd.R_mono Z97.out (fun _ hk => ⟨hk.2, hk.1⟩)), (bk Z5), bq⟩)
          ·skip
           refine Kd.R_lit_step k80 _ 80 ?hg (N := 26) ?hd (xs := ([(⟨a1_0, a1_1, a1_2, a1_3, a1_4, a1_5⟩ : S80)] : List (S80))) (inner := [.int .i64 a1_0, .int .i64 a1_1, .int .i64 a1_2, .int .i64 a1_3, .string a1_4, .int .i64 a1_5]) (ok := fun _ => True) (okp := fun _ => True) ?hr ?hp (fun _ hk => hk) trivial (Below.refl _ _) (Nat.le_refl _) (by simp) ?_; (case hd => rfl); (case hg => rfl); (case hr => first | (go_simp; done) | (go_simp; rfl)); (case hp => exact (Reps.c6 (show Kd.M k80 _ _ _ (⟨a1_0, a1_1, a1_2, a1_3, a1_4, a1_5⟩ : S80) [.int .i64 a1_0, .int .i64 a1_1, .int .i64 a1_2, .int .i64 a1_3, .string a1_4, .int .i64 a1_5] from (k80_mkM _ _ _ (⟨a1_0, a1_1, a1_2, a1_3, a1_4, a1_5⟩ : S80) )) (Reps.none _ _)))
           intro Z90 Z91 Z92 hb hg_ hnew_
           clear hg_ hnew_
           (first | rw [← Z28.out] at Z92 | (simp only [Int.reduceToNat] at Z92; rw [← Z28.out] at Z92))
           have _ := ra (Kd.R_lower (Kd.R_newB Z92 (g := Z3) (o := .cells #[.int .i64 a1_0, .int .i64 a1_1, .int .i64 a1_2, .int .i64 a1_3, .string a1_4, .int .i64 a1_5] 80 (0, 0)) (bk Z5)) (below_size bq))
           have _ := bb (bk Z5) hb
           have _ := bs hb
           clear Z5 HB
           rename_i Z93 Z5 HB
           clear hb Z92
           refine hK.out _ _ ⟨(blk_cell Z5.out 0).trans rfl, (blk_cell Z5.out 1).trans rfl, (blk_cell Z5.out 2).trans rfl, (blk_cell Z5.out 3).trans rfl, (blk_cell Z5.out 4).trans rfl, (blk_cell Z5.out 5).trans rfl⟩ (fun hHeld => ?_)
           clear hK K
           refine nm 26 ?_
           refine oe 0 20 (bl 13 1903) (fun K hK => ?_)
           refine Kd.R_lit_step k80 _ 80 ?hg (N := 20) ?hd (xs := ([] : List (S80))) (inner := []) (ok := fun _ => True) (okp := fun _ => True) ?hr ?hp (fun _ hk => hk) trivial (Below.refl _ _) (Nat.le_refl _) (by simp) ?_; (case hd => rfl); (case hg => rfl); (case hr => first | (go_simp; done) | (go_simp; rfl)); (case hp => exact (Reps.none _ _))
           intro Z94 Z95 Z96 hb hg_ hnew_
           clear hg_ hnew_
           (first | rw [← Z16.out] at Z96 | (simp only [Int.reduceToNat] at Z96; rw [← Z16.out] at Z96))
           have _ := ra (Kd.R_elder' (rq Z93) (Kd.R_base Z96) hb)
           have _ := ra (Kd.R_lower (Kd.R_newB (Kd.R_new' Z96 (Kd.R_lt (rq Z93))) (g := Z3) (o := .cells #[.int .i64 a1_0, .int .i64 a1_1, .int .i64 a1_2, .int .i64 a1_3, .string a1_4, .int .i64 a1_5] 80 (0, 0)) (bk Z5)) (below_size bq))
           have _ := bb (bk Z5) hb
           have _ := bs hb
           clear Z93 Z5 HB
           rename_i Z93 Z97 Z5 HB
           clear hb Z96
           refine hK.out _ _ ⟨(blk_cell Z5.out 0).trans rfl, (blk_cell Z5.out 1).trans rfl, (blk_cell Z5.out 2).trans rfl, (blk_cell Z5.out 3).trans rfl, (blk_cell Z5.out 4).trans rfl, (blk_cell Z5.out 5).trans rfl⟩ (fun hHeld => ?_)
           clear hK K
           refine nm 20 ?_
           refine oe 4 24 (bl 13 1919) (fun K hK => ?_)
           refine Kd.R_append_rows_step k80 (w0 := w) w.heap.size (by rfl) (.tmp 20) (.tmp 23) 78 80 (.agg #[(.int .i64 0), (.int .i64 0), (.int .i64 0), (.int .i64 0), (.string ⟨#[]⟩), (.int .i64 0)]) 56 rfl Tryz.underlying78 info80 rfl (by decide) (by omega) Z94 Z15 Z21 _ _ _ (fun k_ => some k_ ≠ (Z90 : Value).ownBlock ∧ k_ ≠ Z3) (fun _ => False) rfl rfl ?aO ?aR (fun _ _ h => h) (fun _ h => h.elim) ?aF ?aB ?aS ?aL ?_
           (case aR => exact sc Z68)
           (case aB => exact bq)
           (case aF => exact (fun k_ hk => ⟨Kd.fresh' (Kd.R_lt (rq Z93)) k_ hk, Kd.freshB (g := Z3) (o := .cells #[.int .i64 a1_0, .int .i64 a1_1, .int .i64 a1_2, .int .i64 a1_3, .string a1_4, .int .i64 a1_5] 80 (0, 0)) (bk Z5) k_ hk⟩))
           (case aO => exact (by (with_reducible repeat (first | apply Kd.R_alloc | apply Kd.R_drewN | apply Kd.R_drew)); exact Kd.R_mono Z97.out (fun _ hk => ⟨hk.1.2, hk.2⟩)))
           (case aS => exact (below_size bq))
           (case aL => have := Z24.out; omega)
           intro Z98 Z99 ho hb hg hat
           rw [← Z26.out] at ho
           have _ := ra (blk_grown (g := Z3) (o := .cells #[.int .i64 a1_0, .int .i64 a1_1, .int .i64 a1_2, .int .i64 a1_3, .string a1_4, .int .i64 a1_5] 80 (0, 0)) (bk Z5) hg (Kd.R_away Z97.out (fun _ hk => hk.2)))
           have _ := ra (Kd.R_after (ok := (fun k_ => k_ ≠ Z3)) (by (with_reducible repeat (first | apply Kd.R_alloc | apply Kd.R_drewN | apply Kd.R_drew)); exact Kd.R_mono Z93.out (fun _ hk => ⟨hk.1.2, hk.2⟩)) hg hat)
           have _ := ra (hb)
           have _ := ra (ho)
           clear Z5 Z93 HB Z97
           rename_i Z5 Z93 HB Z100
           clear ho hb hg hat
           refine hK.out _ _ ⟨(blk_cell Z5.out 0).trans rfl, (blk_cell Z5.out 1).trans rfl, (blk_cell Z5.out 2).trans rfl, (blk_cell Z5.out 3).trans rfl, (blk_cell Z5.out 4).trans rfl, (blk_cell Z5.out 5).trans rfl⟩ (fun hHeld => ?_)
           clear hK K
           refine nm 24 ?_
           exact norm_ (by simp only [putAll, Act.put, List.setIfInBounds_toArray, List.set_cons_zero, List.set_cons_succ]) (hCont (Z94, Z98, Z90) _ ⟨hHeld, (rq Z100), (by (with_reducible repeat (first | apply Kd.R_alloc | apply Kd.R_drewN | apply Kd.R_drew)); exact Kd.R_mono Z93.out (fun _ hk => ⟨hk.2, hk.1⟩)), (bk Z5), bq⟩)
         rintro ⟨Z90, Z91, Z92⟩ Z93 ⟨hS_, Z94, Z95, Z96, Z97⟩
         have _ : Aside0 (Kd.R k80 80 Z93 w.heap.size (fun k_ => some k_ ≠ (Z92 : Value).ownBlock ∧ k_ ≠ Z3) Z91 Z25) := ⟨Z94⟩
         have _ : Aside0 (Kd.R k80 80 Z93 w.heap.size (fun k_ => some k_ ≠ (Z91 : Value).ownBlock ∧ k_ ≠ Z3) Z92 Z27) := ⟨Z95⟩
         have _ : Aside0 (Z93.heap[Z3]? = some (.cells #[.int .i64 a1_0, .int .i64 a1_1, .int .i64 a1_2, .int .i64 a1_3, .string a1_4, .int .i64 a1_5] 80 (0, 0))) := ⟨Z96⟩
         have _ : Aside0 (Below w.heap.size w Z93) := ⟨Z97⟩
         clear Z5 HB
         clear Z94 Z95 Z96 Z97
         rename_i Z98 Z99 Z5 HB
         have hHeld : Z93.cell? ⟨Z3, 0, none⟩ = some (.int .i64 a1_0) ∧ Z93.cell? ⟨Z3, 1, none⟩ = some (.int .i64 a1_1) ∧ Z93.cell? ⟨Z3, 2, none⟩ = some (.int .i64 a1_2) ∧ Z93.cell? ⟨Z3, 3, none⟩ = some (.int .i64 a1_3) ∧ Z93.cell? ⟨Z3, 4, none⟩ = some (.string a1_4) ∧ Z93.cell? ⟨Z3, 5, none⟩ = some (.int .i64 a1_5) := hS_
         obtain ⟨Z100, Z101, Z102⟩ := Kd.R_slice Z99.out
         (first | subst Z102 | (injection Z102 with f1_ f2_ f3_; have Z103 := f1_.symm; have Z104 := f3_.symm; clear f1_ f2_ f3_; subst Z103; subst Z104))
         refine norm_ (a' := ?_) ?_ ?_
         rotate_left
         ·simp only [putAll, Act.put, List.setIfInBounds_toArray, List.set_cons_zero, List.set_cons_succ]
          rfl
         refine oe 7 27 (bl 13 2047) (fun K hK => ?_)
         refine Kd.R_append_rows_step k80 (w0 := w) w.heap.size (by rfl) (.tmp 24) (.tmp 26) 78 80 (.agg #[(.int .i64 0), (.int .i64 0), (.int .i64 0), (.int .i64 0), (.string ⟨#[]⟩), (.int .i64 0)]) 56 rfl Tryz.underlying78 info80 rfl (by decide) (by omega) Z91 Z25 Z27 _ _ _ (fun k_ => some k_ ≠ (.slice Z100 Z27.length Z101 : Value).ownBlock ∧ k_ ≠ Z3) (fun _ => False) rfl rfl ?aO ?aR (fun _ _ h => h) (fun _ h => h.elim) ?aF ?aB ?aS ?aL ?_
         (case aR => exact sr Z99)
         (case aB => exact bq)
         (case aF => exact (fun k_ hk => ⟨Kd.fresh' (Kd.R_lt (rq Z99)) k_ hk, Kd.freshB (g := Z3) (o := .cells #[.int .i64 a1_0, .int .i64 a1_1, .int .i64 a1_2, .int .i64 a1_3, .string a1_4, .int .i64 a1_5] 80 (0, 0)) (bk Z5) k_ hk⟩))
         (case aO => exact (rq Z98))
         (case aS => exact (below_size bq))
         (case aL => have := Z30.out; omega)
         intro Z105 Z106 ho hb hg hat
         rw [← Z32.out] at ho
         have _ := ra (blk_grown (g := Z3) (o := .cells #[.int .i64 a1_0, .int .i64 a1_1, .int .i64 a1_2, .int .i64 a1_3, .string a1_4, .int .i64 a1_5] 80 (0, 0)) (bk Z5) hg (Kd.R_away Z98.out (fun _ hk => hk.2)))
         have _ := ra (Kd.R_after (ok := (fun k_ => k_ ≠ Z3)) (by (with_reducible repeat (first | apply Kd.R_alloc | apply Kd.R_drewN | apply Kd.R_drew)); exact Kd.R_mono Z99.out (fun _ hk => ⟨hk.2, hk.1⟩)) hg hat)
         have _ := ra (hb)
         have _ := ra (ho)
         clear Z5 Z99 HB Z98
         rename_i Z5 Z99 HB Z107
         clear ho hb hg hat
         refine hK.out _ _ ⟨(blk_cell Z5.out 0).trans rfl, (blk_cell Z5.out 1).trans rfl, (blk_cell Z5.out 2).trans rfl, (blk_cell Z5.out 3).trans rfl, (blk_cell Z5.out 4).trans rfl, (blk_cell Z5.out 5).trans rfl⟩ (fun hHeld => ?_)
         clear hK K
         refine nm 27 ?_
         refine oe 11 31 (bl 13 4095) (fun K hK => ?_)
         refine Kd.R_append_rows_step k80 (w0 := w) w.heap.size (by rfl) (.tmp 27) (.tmp 30) 78 80 (.agg #[(.int .i64 0), (.int .i64 0), (.int .i64 0), (.int .i64 0), (.string ⟨#[]⟩), (.int .i64 0)]) 56 rfl Tryz.underlying78 info80 rfl (by decide) (by omega) Z105 Z31 Z35 _ _ _ (fun k_ => some k_ ≠ (.slice Z100 Z27.length Z101 : Value).ownBlock ∧ k_ ≠ Z3) (fun _ => False) rfl rfl ?aO ?aR (fun _ _ h => h) (fun _ h => h.elim) ?aF ?aB ?aS ?aL ?_
         (case aR => exact sc Z85)
         (case aB => exact bq)
         (case aF => exact (fun k_ hk => ⟨Kd.fresh' (Kd.R_lt (rq Z99)) k_ hk, Kd.freshB (g := Z3) (o := .cells #[.int .i64 a1_0, .int .i64 a1_1, .int .i64 a1_2, .int .i64 a1_3, .string a1_4, .int .i64 a1_5] 80 (0, 0)) (bk Z5) k_ hk⟩))
         (case aO => exact (rq Z107))
         (case aS => exact (below_size bq))
         (case aL => have := Z38.out; omega)
         intro Z108 Z109 ho hb hg hat
         rw [← Z40.out] at ho
         have _ := ra (blk_grown (g := Z3) (o := .cells #[.int .i64 a1_0, .int .i64 a1_1, .int .i64 a1_2, .int .i64 a1_3, .string a1_4, .int .i64 a1_5] 80 (0, 0)) (bk Z5) hg (Kd.R_away Z107.out (fun _ hk => hk.2)))
         have _ := ra (Kd.R_after (ok := (fun k_ => k_ ≠ Z3)) (rq Z99) hg hat)
         have _ := ra (hb)
         have _ := ra (ho)
         clear Z5 Z99 HB Z107
         rename_i Z5 Z99 HB Z110
         clear ho hb hg hat
         refine hK.out _ _ ⟨(blk_cell Z5.out 0).trans rfl, (blk_cell Z5.out 1).trans rfl, (blk_cell Z5.out 2).trans rfl, (blk_cell Z5.out 3).trans rfl, (blk_cell Z5.out 4).trans rfl, (blk_cell Z5.out 5).trans rfl⟩ (fun hHeld => ?_)
         clear hK K
         refine nm 31 ?_
         refine pu 12 4 (bl 13 8191) ?_
         refine done_ (done_of HT_.out (by kernel_rfl)) ?_
         try go_wp2
         go_ret
         exact ⟨_, re, by (with_reducible repeat (first | apply Kd.R_alloc | apply Kd.R_drewN | apply Kd.R_drew)); exact Kd.R_mono Z110.out (fun _ hk => trivial), bq⟩
        ·rw [if_neg Z37] at H
         exact absurd H (by simp)
       ·rw [if_neg Z29] at H
        exact absurd H (by simp)
      ·rw [if_neg Z23] at H
       exact absurd H (by simp)
     ·rw [if_neg Z18] at H
      exact absurd H (by simp)
   ·obtain ⟨Z11, hy_⟩ : ∃ y_ : List (S80), y_ = (([] : List (S80))) := ⟨_, rfl⟩
    replace H : (if 0 ≤ Z7 then (if Z7 ≤ (l0.length : Int) then ((some (l0.take (Z7 : Int).toNat : List (S80))).bind fun y786 => (if Z11.length + y786.length < 2513169434916 then ((some (Z11 ++ y786 : List (S80))).bind fun y790 => ((some (([(⟨a1_0, a1_1, a1_2, a1_3, a1_4, a1_5⟩ : S80)] : List (S80)) : List (S80))).bind fun y793 => (if y790.length + y793.length < 2513169434916 then ((some (y790 ++ y793 : List (S80))).bind fun y796 => ((some (l0.drop (Z7 : Int).toNat : List (S80))).bind fun y799 => (if y796.length + y799.length < 2513169434916 then (some (y796 ++ y799)) else (none)))) else (none)))) else (none))) else (none)) else (none)) = some r := yh
    have Z12 := ra hy_
    clear hy_
    by_cases Z13 : 0 ≤ Z7
    ·rw [if_pos Z13] at H
     have Z14 := eq_true Z13
     have Z15 : decide (0 ≤ Z7) = true := decide_eq_true Z13
     clear Z13
     by_cases Z16 : Z7 ≤ (l0.length : Int)
     ·rw [if_pos Z16] at H
      have Z17 := eq_true Z16
      have Z18 : decide (Z7 ≤ (l0.length : Int)) = true := decide_eq_true Z16
      clear Z16
      obtain ⟨Z19, hy_⟩ : ∃ y_ : List (S80), y_ = (l0.take (Z7 : Int).toNat) := ⟨_, rfl⟩
      replace H : (if Z11.length + Z19.length < 2513169434916 then ((some (Z11 ++ Z19 : List (S80))).bind fun y790 => ((some (([(⟨a1_0, a1_1, a1_2, a1_3, a1_4, a1_5⟩ : S80)] : List (S80)) : List (S80))).bind fun y793 => (if y790.length + y793.length < 2513169434916 then ((some (y790 ++ y793 : List (S80))).bind fun y796 => ((some (l0.drop (Z7 : Int).toNat : List (S80))).bind fun y799 => (if y796.length + y799.length < 2513169434916 then (some (y796 ++ y799)) else (none)))) else (none)))) else (none)) = some r := yh
      have Z20 := ra hy_
      clear hy_
      by_cases Z21 : Z11.length + Z19.length < 2513169434916
      ·rw [if_pos Z21] at H
       have Z22 := ra Z21; clear Z21
       obtain ⟨Z23, hy_⟩ : ∃ y_ : List (S80), y_ = (Z11 ++ Z19) := ⟨_, rfl⟩
       replace H : ((some (([(⟨a1_0, a1_1, a1_2, a1_3, a1_4, a1_5⟩ : S80)] : List (S80)) : List (S80))).bind fun y793 => (if Z23.length + y793.length < 2513169434916 then ((some (Z23 ++ y793 : List (S80))).bind fun y796 => ((some (l0.drop (Z7 : Int).toNat : List (S80))).bind fun y799 => (if y796.length + y799.length < 2513169434916 then (some (y796 ++ y799)) else (none)))) else (none))) = some r := yh
       have Z24 := ra hy_
       clear hy_
       obtain ⟨Z25, hy_⟩ : ∃ y_ : List (S80), y_ = (([(⟨a1_0, a1_1, a1_2, a1_3, a1_4, a1_5⟩ : S80)] : List (S80))) := ⟨_, rfl⟩
       replace H : (if Z23.length + Z25.length < 2513169434916 then ((some (Z23 ++ Z25 : List (S80))).bind fun y796 => ((some (l0.drop (Z7 : Int).toNat : List (S80))).bind fun y799 => (if y796.length + y799.length < 2513169434916 then (some (y796 ++ y799)) else (none)))) else (none)) = some r := yh
       have Z26 := ra hy_
       clear hy_
       by_cases Z27 : Z23.length + Z25.length < 2513169434916
       ·rw [if_pos Z27] at H
        have Z28 := ra Z27; clear Z27
        obtain ⟨Z29, hy_⟩ : ∃ y_ : List (S80), y_ = (Z23 ++ Z25) := ⟨_, rfl⟩
        replace H : ((some (l0.drop (Z7 : Int).toNat : List (S80))).bind fun y799 => (if Z29.length + y799.length < 2513169434916 then (some (Z29 ++ y799)) else (none))) = some r := yh
        have Z30 := ra hy_
        clear hy_
        have Z31 := eq_true (od : 0 ≤ Z7)
        have Z32 := eq_true (od : Z7 ≤ (l0.length : Int))
        obtain ⟨Z33, hy_⟩ : ∃ y_ : List (S80), y_ = (l0.drop (Z7 : Int).toNat) := ⟨_, rfl⟩
        replace H : (if Z29.length + Z33.length < 2513169434916 then (some (Z29 ++ Z33)) else (none)) = some r := yh
        have Z34 := ra hy_
        clear hy_
        by_cases Z35 : Z29.length + Z33.length < 2513169434916
        ·rw [if_pos Z35] at H
         have Z36 := ra Z35; clear Z35
         obtain ⟨Z37, hy_⟩ : ∃ y_ : List (S80), y_ = (Z29 ++ Z33) := ⟨_, rfl⟩
         replace H : (some Z37) = some r := yh
         have Z38 := ra hy_
         clear hy_
         obtain rfl := Option.some.inj H
         try go_wp2
         have _ := ra (blk_drew Z5.out)
         have _ := ra (below_drew1 HB.out)
         clear Z5 HB
         rename_i Z5 HB
         refine start_ (n := 12) (S := fun w' => True) (ds := []) (bl 12 0) (by kernel_rfl) rfl rfl trivial (fun hHeld => ?_); refine with_tabW spec_l5Slot.tab2 spec_l5Slot.bits2 (fun HT_ HW_ => ?_)
         generalize wr.drew = Z39 at Z5 HB hHeld ⊢
         refine pu 0 6 (bl 12 1) ?_
         refine pu 1 7 (bl 12 3) ?_
         refine pu 2 8 (bl 12 7) ?_
         refine pu 3 9 (bl 12 15) ?_
         refine pu 4 10 (bl 12 31) ?_
         refine pv 5 11 (bl 12 63) ?_
         refine pv 6 12 (bl 12 127) ?_
         refine pv 7 13 (bl 12 255) ?_
         refine pv 8 14 (bl 12 511) ?_
         refine pv 9 15 (bl 12 1023) ?_
         refine pv 10 16 (bl 12 2047) ?_
         refine pu 11 17 (bl 12 4095) ?_
         refine done_ (done_of HT_.out (by kernel_rfl)) ?_
         try go_wp2
         have _ := ra (blk_drew Z5.out)
         have _ := ra (below_drew1 HB.out)
         clear Z5 HB
         rename_i Z5 HB
         have Z40 : (Z7 : Int) ≤ ((l0.length : Int) : Int) := od
         obtain ⟨Z41, Z42, _, Z43, _⟩ := info_parts info80
         have Z44 : l0.length ≤ c0 := Z2.out
         have Z45 : Kd.C k80 _ A0 l0.length l0 := Z1.out
         have Z46 := cut_to (P := Tryz.prog) 78 80 .i64 Tryz.underlying78 Z42 A0 l0.length c0 Z7 (od) Z40 Z44
         have Z47 := Kd.C_take (m := (Z7 : Int).toNat) Z45 (by omega)
         have Z48 : Z19.length = (Z7 : Int).toNat := (by rw [Z20.out, List.length_take]; omega)
         rw [← Z20.out] at Z47
         rw [← Z48] at Z46
         have Z49 := ra Z47
         have Z50 := ra (show Z19.length ≤ c0 from by omega)
         clear Z47 Z45 Z44 Z42 Z43
         have Z51 := ra Z48; clear Z48
         replace Z40 := eq_true Z40
         have Z52 : (Z7 : Int) ≤ ((l0.length : Int) : Int) := od
         obtain ⟨Z53, Z54, _, Z55, _⟩ := info_parts info80
         have Z56 : l0.length ≤ c0 := Z2.out
         have Z57 : Kd.C k80 _ A0 l0.length l0 := Z1.out
         have Z58 : (0 : Int) ≤ (Z7 : Int) := od
         have Z59 := cut_from (P := Tryz.prog) 78 80 .i64 Tryz.underlying78 Z54 6 Z55 A0 l0.length c0 Z7 Z58 Z52
         have Z60 := Kd.C_drop (m := (Z7 : Int).toNat) (c := c0) Z57 (by omega) Z56
         obtain ⟨Z61, Z62⟩ : ∃ A1, A1 = (if c0 = (Z7 : Int).toNat then A0 else (A0 : Option Addr).map (·.add ((Z7 : Int).toNat * 6))) := ⟨_, rfl⟩
         obtain ⟨Z63, Z64⟩ : ∃ c1, c1 = c0 - (Z7 : Int).toNat := ⟨_, rfl⟩
         have Z65 : Z33.length = l0.length - (Z7 : Int).toNat := (by rw [Z34.out, List.length_drop] <;> omega)
         rw [show (l0).drop (Z7 : Int).toNat = Z33 from Z34.out.symm] at Z60
         replace Z60 : Kd.C k80 _ Z61 Z33.length Z33 := (by rw [Z62]; exact Z60)
         rw [← Z65, ← Z62, ← Z64] at Z59
         have Z66 := ra Z60
         have Z67 := ra (show Z33.length ≤ Z63 from by rw [Z65, Z64]; exact Nat.sub_le_sub_right Z56 _)
         clear Z60 Z57 Z56 Z54 Z55 Z64
         have Z68 := ra Z65
         have Z69 := ra Z62
         clear Z65 Z62
         replace Z52 := eq_true Z52
         refine start_ (n := 13) (S := fun w' => w'.cell? ⟨Z3, 0, none⟩ = some (.int .i64 a1_0) ∧ w'.cell? ⟨Z3, 1, none⟩ = some (.int .i64 a1_1) ∧ w'.cell? ⟨Z3, 2, none⟩ = some (.int .i64 a1_2) ∧ w'.cell? ⟨Z3, 3, none⟩ = some (.int .i64 a1_3) ∧ w'.cell? ⟨Z3, 4, none⟩ = some (.string a1_4) ∧ w'.cell? ⟨Z3, 5, none⟩ = some (.int .i64 a1_5)) (ds := []) (bl 13 0) (by kernel_rfl) rfl rfl ⟨(blk_cell Z5.out 0).trans rfl, (blk_cell Z5.out 1).trans rfl, (blk_cell Z5.out 2).trans rfl, (blk_cell Z5.out 3).trans rfl, (blk_cell Z5.out 4).trans rfl, (blk_cell Z5.out 5).trans rfl⟩ (fun hHeld => ?_); refine with_tabW spec_l5Slot.tab4 spec_l5Slot.bits4 (fun HT_ HW_ => ?_)
         generalize Z39.drew = Z70 at Z5 HB Z49 Z66 hHeld ⊢
         refine pu 1 21 (bl 13 2) ?_
         refine pu 2 22 (bl 13 6) ?_
         refine pu 3 23 (bl 13 14) ?_
         refine pu 8 28 (bl 13 270) ?_
         refine pu 9 29 (bl 13 782) ?_
         refine pu 10 30 (bl 13 1806) ?_
         refine tk 5 25 (bl 13 1838) ?_ hHeld
         refine join_ (σ := Value × Value × Value) 3 #[true, true, true, true, true, true, true, false, true, true, true, false, false] (fun s_ => [(20, s_.1), (24, s_.2.1), (26, s_.2.2)]) (fun s_ w' => (w'.cell? ⟨Z3, 0, none⟩ = some (.int .i64 a1_0) ∧ w'.cell? ⟨Z3, 1, none⟩ = some (.int .i64 a1_1) ∧ w'.cell? ⟨Z3, 2, none⟩ = some (.int .i64 a1_2) ∧ w'.cell? ⟨Z3, 3, none⟩ = some (.int .i64 a1_3) ∧ w'.cell? ⟨Z3, 4, none⟩ = some (.string a1_4) ∧ w'.cell? ⟨Z3, 5, none⟩ = some (.int .i64 a1_5)) ∧ (Kd.R k80 80 w' w.heap.size (fun k_ => some k_ ≠ (s_.2.2 : Value).ownBlock ∧ k_ ≠ Z3) s_.2.1 Z23) ∧ (Kd.R k80 80 w' w.heap.size (fun k_ => some k_ ≠ (s_.2.1 : Value).ownBlock ∧ k_ ≠ Z3) s_.2.2 Z25) ∧ (w'.heap[Z3]? = some (.cells #[.int .i64 a1_0, .int .i64 a1_1, .int .i64 a1_2, .int .i64 a1_3, .string a1_4, .int .i64 a1_5] 80 (0, 0))) ∧ (Below w.heap.size w w')) ?_ ?_
         rotate_left
         ·intro hCont
          refine two_ (i := 0) (j := 6) (Ni := some 20) (Nj := some 26) #[true, true, true, true, false, true, false, false, true, true, true, false, false] #[false, true, true, true, false, true, true, false, true, true, true, false, false] rfl rfl rfl rfl (two_of HT_.out (by kernel_rfl)) (by decide) (by decide) (fun K hK => ?_) (fun K hK => ?_)
          ·skip
           refine Kd.R_lit_step k80 _ 80 ?hg (N := 20) ?hd (xs := ([] : List (S80))) (inner := []) (ok := fun _ => True) (okp := fun _ => True) ?hr ?hp (fun _ hk => hk) trivial (Below.refl _ _) (Nat.le_refl _) (by simp) ?_; (case hd => rfl); (case hg => rfl); (case hr => first | (go_simp; done) | (go_simp; rfl)); (case hp => exact (Reps.none _ _))
           intro Z71 Z72 Z73 hb hg_ hnew_
           clear hg_ hnew_
           (first | rw [← Z12.out] at Z73 | (simp only [Int.reduceToNat] at Z73; rw [← Z12.out] at Z73))
           have _ := ra (Kd.R_lower (Kd.R_newB Z73 (g := Z3) (o := .cells #[.int .i64 a1_0, .int .i64 a1_1, .int .i64 a1_2, .int .i64 a1_3, .string a1_4, .int .i64 a1_5] 80 (0, 0)) (bk Z5)) (below_size bq))
           have _ := bb (bk Z5) hb
           have _ := bs hb
           clear Z5 HB
           rename_i Z74 Z5 HB
           clear hb Z73
           refine hK.out _ _ ⟨(blk_cell Z5.out 0).trans rfl, (blk_cell Z5.out 1).trans rfl, (blk_cell Z5.out 2).trans rfl, (blk_cell Z5.out 3).trans rfl, (blk_cell Z5.out 4).trans rfl, (blk_cell Z5.out 5).trans rfl⟩ (fun hHeld => ?_)
           clear hK K
           refine nm 20 ?_
           refine two_ (i := 4) (j := 6) (Ni := some 24) (Nj := some 26) #[true, true, true, true, true, true, false, false, true, true, true, false, false] #[true, true, true, true, false, true, true, false, true, true, true, false, false] rfl rfl rfl rfl (two_of HT_.out (by kernel_rfl)) (by decide) (by decide) (fun K hK => ?_) (fun K hK => ?_)
           ·skip
            refine Kd.R_append_rows_step k80 (w0 := w) w.heap.size (by rfl) (.tmp 20) (.tmp 23) 78 80 (.agg #[(.int .i64 0), (.int .i64 0), (.int .i64 0), (.int .i64 0), (.string ⟨#[]⟩), (.int .i64 0)]) 56 rfl Tryz.underlying78 info80 rfl (by decide) (by omega) Z71 Z11 Z19 _ _ _ (fun k_ => k_ ≠ Z3) (fun _ => False) rfl rfl ?aO ?aR (fun _ _ h => h) (fun _ h => h.elim) ?aF ?aB ?aS ?aL ?_
            (case aR => exact sc Z49)
            (case aB => exact bq)
            (case aF => exact (fun k_ hk => Kd.freshB (g := Z3) (o := .cells #[.int .i64 a1_0, .int .i64 a1_1, .int .i64 a1_2, .int .i64 a1_3, .string a1_4, .int .i64 a1_5] 80 (0, 0)) (bk Z5) k_ hk))
            (case aO => exact (by (with_reducible repeat (first | apply Kd.R_alloc | apply Kd.R_drewN | apply Kd.R_drew)); exact Kd.R_mono Z74.out (fun _ hk => hk.2)))
            (case aS => exact (below_size bq))
            (case aL => have := Z22.out; omega)
            intro Z75 Z76 ho hb hg hat
            rw [← Z24.out] at ho
            have _ := ra (blk_grown (g := Z3) (o := .cells #[.int .i64 a1_0, .int .i64 a1_1, .int .i64 a1_2, .int .i64 a1_3, .string a1_4, .int .i64 a1_5] 80 (0, 0)) (bk Z5) hg (Kd.R_away Z74.out (fun _ hk => hk.2)))
            have _ := ra (hb)
            have _ := ra (ho)
            clear Z5 HB Z74
            rename_i Z5 HB Z77
            clear ho hb hg hat
            refine hK.out _ _ ⟨(blk_cell Z5.out 0).trans rfl, (blk_cell Z5.out 1).trans rfl, (blk_cell Z5.out 2).trans rfl, (blk_cell Z5.out 3).trans rfl, (blk_cell Z5.out 4).trans rfl, (blk_cell Z5.out 5).trans rfl⟩ (fun hHeld => ?_)
            clear hK K
            refine nm 24 ?_
            refine oe 6 26 (bl 13 1919) (fun K hK => ?_)
            refine Kd.R_lit_step k80 _ 80 ?hg (N := 26) ?hd (xs := ([(⟨a1_0, a1_1, a1_2, a1_3, a1_4, a1_5⟩ : S80)] : List (S80))) (inner := [.int .i64 a1_0, .int .i64 a1_1, .int .i64 a1_2, .int .i64 a1_3, .string a1_4, .int .i64 a1_5]) (ok := fun _ => True) (okp := fun _ => True) ?hr ?hp (fun _ hk => hk) trivial (Below.refl _ _) (Nat.le_refl _) (by simp) ?_; (case hd => rfl); (case hg => rfl); (case hr => first | (go_simp; done) | (go_simp; rfl)); (case hp => exact (Reps.c6 (show Kd.M k80 _ _ _ (⟨a1_0, a1_1, a1_2, a1_3, a1_4, a1_5⟩ : S80) [.int .i64 a1_0, .int .i64 a1_1, .int .i64 a1_2, .int .i64 a1_3, .string a1_4, .int .i64 a1_5] from (k80_mkM _ _ _ (⟨a1_0, a1_1, a1_2, a1_3, a1_4, a1_5⟩ : S80) )) (Reps.none _ _)))
            intro Z78 Z79 Z80 hb hg_ hnew_
            clear hg_ hnew_
            (first | rw [← Z26.out] at Z80 | (simp only [Int.reduceToNat] at Z80; rw [← Z26.out] at Z80))
            have _ := ra (Kd.R_elder' (rq Z77) (Kd.R_base Z80) hb)
            have _ := ra (Kd.R_lower (Kd.R_newB (Kd.R_new' Z80 (Kd.R_lt (rq Z77))) (g := Z3) (o := .cells #[.int .i64 a1_0, .int .i64 a1_1, .int .i64 a1_2, .int .i64 a1_3, .string a1_4, .int .i64 a1_5] 80 (0, 0)) (bk Z5)) (below_size bq))
            have _ := bb (bk Z5) hb
            have _ := bs hb
            clear Z77 Z5 HB
            rename_i Z77 Z81 Z5 HB
            clear hb Z80
            refine hK.out _ _ ⟨(blk_cell Z5.out 0).trans rfl, (blk_cell Z5.out 1).trans rfl, (blk_cell Z5.out 2).trans rfl, (blk_cell Z5.out 3).trans rfl, (blk_cell Z5.out 4).trans rfl, (blk_cell Z5.out 5).trans rfl⟩ (fun hHeld => ?_)
            clear hK K
            refine nm 26 ?_
            exact norm_ (by simp only [putAll, Act.put, List.setIfInBounds_toArray, List.set_cons_zero, List.set_cons_succ]) (hCont (Z71, Z75, Z78) _ ⟨hHeld, (by (with_reducible repeat (first | apply Kd.R_alloc | apply Kd.R_drewN | apply Kd.R_drew)); exact Kd.R_mono Z77.out (fun _ hk => ⟨hk.2, hk.1⟩)), (by (with_reducible repeat (first | apply Kd.R_alloc | apply Kd.R_drewN | apply Kd.R_drew)); exact Kd.R_mono Z81.out (fun _ hk => ⟨hk.1.2, hk.2⟩)), (bk Z5), bq⟩)
           ·skip
            refine Kd.R_lit_step k80 _ 80 ?hg (N := 26) ?hd (xs := ([(⟨a1_0, a1_1, a1_2, a1_3, a1_4, a1_5⟩ : S80)] : List (S80))) (inner := [.int .i64 a1_0, .int .i64 a1_1, .int .i64 a1_2, .int .i64 a1_3, .string a1_4, .int .i64 a1_5]) (ok := fun _ => True) (okp := fun _ => True) ?hr ?hp (fun _ hk => hk) trivial (Below.refl _ _) (Nat.le_refl _) (by simp) ?_; (case hd => rfl); (case hg => rfl); (case hr => first | (go_simp; done) | (go_simp; rfl)); (case hp => exact (Reps.c6 (show Kd.M k80 _ _ _ (⟨a1_0, a1_1, a1_2, a1_3, a1_4, a1_5⟩ : S80) [.int .i64 a1_0, .int .i64 a1_1, .int .i64 a1_2, .int .i64 a1_3, .string a1_4, .int .i64 a1_5] from (k80_mkM _ _ _ (⟨a1_0, a1_1, a1_2, a1_3, a1_4, a1_5⟩ : S80) )) (Reps.none _ _)))
            intro Z75 Z76 Z77 hb hg_ hnew_
            clear hg_ hnew_
            (first | rw [← Z26.out] at Z77 | (simp only [Int.reduceToNat] at Z77; rw [← Z26.out] at Z77))
            have _ := ra (Kd.R_elder' (rq Z74) (Kd.R_base Z77) hb)
            have _ := ra (Kd.R_lower (Kd.R_newB (Kd.R_new' Z77 (Kd.R_lt (rq Z74))) (g := Z3) (o := .cells #[.int .i64 a1_0, .int .i64 a1_1, .int .i64 a1_2, .int .i64 a1_3, .string a1_4, .int .i64 a1_5] 80 (0, 0)) (bk Z5)) (below_size bq))
            have _ := bb (bk Z5) hb
            have _ := bs hb
            clear Z74 Z5 HB
            rename_i Z74 Z78 Z5 HB
            clear hb Z77
            refine hK.out _ _ ⟨(blk_cell Z5.out 0).trans rfl, (blk_cell Z5.out 1).trans rfl, (blk_cell Z5.out 2).trans rfl, (blk_cell Z5.out 3).trans rfl, (blk_cell Z5.out 4).trans rfl, (blk_cell Z5.out 5).trans rfl⟩ (fun hHeld => ?_)
            clear hK K
            refine nm 26 ?_
            refine oe 4 24 (bl 13 1919) (fun K hK => ?_)
            refine Kd.R_append_rows_step k80 (w0 := w) w.heap.size (by rfl) (.tmp 20) (.tmp 23) 78 80 (.agg #[(.int .i64 0), (.int .i64 0), (.int .i64 0), (.int .i64 0), (.string ⟨#[]⟩), (.int .i64 0)]) 56 rfl Tryz.underlying78 info80 rfl (by decide) (by omega) Z71 Z11 Z19 _ _ _ (fun k_ => some k_ ≠ (Z75 : Value).ownBlock ∧ k_ ≠ Z3) (fun _ => False) rfl rfl ?aO ?aR (fun _ _ h => h) (fun _ h => h.elim) ?aF ?aB ?aS ?aL ?_
            (case aR => exact sc Z49)
            (case aB => exact bq)
            (case aF => exact (fun k_ hk => ⟨Kd.fresh' (Kd.R_lt (rq Z78)) k_ hk, Kd.freshB (g := Z3) (o := .cells #[.int .i64 a1_0, .int .i64 a1_1, .int .i64 a1_2, .int .i64 a1_3, .string a1_4, .int .i64 a1_5] 80 (0, 0)) (bk Z5) k_ hk⟩))
            (case aO => exact (by (with_reducible repeat (first | apply Kd.R_alloc | apply Kd.R_drewN | apply Kd.R_drew)); exact Kd.R_mono Z74.out (fun _ hk => ⟨hk.2, hk.1.2⟩)))
            (case aS => exact (below_size bq))
            (case aL => have := Z22.out; omega)
            intro Z79 Z80 ho hb hg hat
            rw [← Z24.out] at ho
            have _ := ra (blk_grown (g := Z3) (o := .cells #[.int .i64 a1_0, .int .i64 a1_1, .int .i64 a1_2, .int .i64 a1_3, .string a1_4, .int .i64 a1_5] 80 (0, 0)) (bk Z5) hg (Kd.R_away Z74.out (fun _ hk => hk.1.2)))
            have _ := ra (Kd.R_after (ok := (fun k_ => k_ ≠ Z3)) (by (with_reducible repeat (first | apply Kd.R_alloc | apply Kd.R_drewN | apply Kd.R_drew)); exact Kd.R_mono Z78.out (fun _ hk => ⟨hk.2, hk.1.2⟩)) hg hat)
            have _ := ra (hb)
            have _ := ra (ho)
            clear Z5 Z78 HB Z74
            rename_i Z5 Z78 HB Z81
            clear ho hb hg hat
            refine hK.out _ _ ⟨(blk_cell Z5.out 0).trans rfl, (blk_cell Z5.out 1).trans rfl, (blk_cell Z5.out 2).trans rfl, (blk_cell Z5.out 3).trans rfl, (blk_cell Z5.out 4).trans rfl, (blk_cell Z5.out 5).trans rfl⟩ (fun hHeld => ?_)
            clear hK K
            refine nm 24 ?_
            exact norm_ (by simp only [putAll, Act.put, List.setIfInBounds_toArray, List.set_cons_zero, List.set_cons_succ]) (hCont (Z71, Z79, Z75) _ ⟨hHeld, (rq Z81), (by (with_reducible repeat (first | apply Kd.R_alloc | apply Kd.R_drewN | apply Kd.R_drew)); exact Kd.R_mono Z78.out (fun _ hk => ⟨hk.2, hk.1⟩)), (bk Z5), bq⟩)
          ·skip
           refine Kd.R_lit_step k80 _ 80 ?hg (N := 26) ?hd (xs := ([(⟨a1_0, a1_1, a1_2, a1_3, a1_4, a1_5⟩ : S80)] : List (S80))) (inner := [.int .i64 a1_0, .int .i64 a1_1, .int .i64 a1_2, .int .i64 a1_3, .string a1_4, .int .i64 a1_5]) (ok := fun _ => True) (okp := fun _ => True) ?hr ?hp (fun _ hk => hk) trivial (Below.refl _ _) (Nat.le_refl _) (by simp) ?_; (case hd => rfl); (case hg => rfl); (case hr => first | (go_simp; done) | (go_simp; rfl)); (case hp => exact (Reps.c6 (show Kd.M k80 _ _ _ (⟨a1_0, a1_1, a1_2, a1_3, a1_4, a1_5⟩ : S80) [.int .i64 a1_0, .int .i64 a1_1, .int .i64 a1_2, .int .i64 a1_3, .string a1_4, .int .i64 a1_5] from (k80_mkM _ _ _ (⟨a1_0, a1_1, a1_2, a1_3, a1_4, a1_5⟩ : S80) )) (Reps.none _ _)))
           intro Z71 Z72 Z73 hb hg_ hnew_
           clear hg_ hnew_
           (first | rw [← Z26.out] at Z73 | (simp only [Int.reduceToNat] at Z73; rw [← Z26.out] at Z73))
           have _ := ra (Kd.R_lower (Kd.R_newB Z73 (g := Z3) (o := .cells #[.int .i64 a1_0, .int .i64 a1_1, .int .i64 a1_2, .int .i64 a1_3, .string a1_4, .int .i64 a1_5] 80 (0, 0)) (bk Z5)) (below_size bq))
           have _ := bb (bk Z5) hb
           have _ := bs hb
           clear Z5 HB
           rename_i Z74 Z5 HB
           clear hb Z73
           refine hK.out _ _ ⟨(blk_cell Z5.out 0).trans rfl, (blk_cell Z5.out 1).trans rfl, (blk_cell Z5.out 2).trans rfl, (blk_cell Z5.out 3).trans rfl, (blk_cell Z5.out 4).trans rfl, (blk_cell Z5.out 5).trans rfl⟩ (fun hHeld => ?_)
           clear hK K
           refine nm 26 ?_
           refine oe 0 20 (bl 13 1903) (fun K hK => ?_)
           refine Kd.R_lit_step k80 _ 80 ?hg (N := 20) ?hd (xs := ([] : List (S80))) (inner := []) (ok := fun _ => True) (okp := fun _ => True) ?hr ?hp (fun _ hk => hk) trivial (Below.refl _ _) (Nat.le_refl _) (by simp) ?_; (case hd => rfl); (case hg => rfl); (case hr => first | (go_simp; done) | (go_simp; rfl)); (case hp => exact (Reps.none _ _))
           intro Z75 Z76 Z77 hb hg_ hnew_
           clear hg_ hnew_
           (first | rw [← Z12.out] at Z77 | (simp only [Int.reduceToNat] at Z77; rw [← Z12.out] at Z77))
           have _ := ra (Kd.R_elder' (rq Z74) (Kd.R_base Z77) hb)
           have _ := ra (Kd.R_lower (Kd.R_newB (Kd.R_new' Z77 (Kd.R_lt (rq Z74))) (g := Z3) (o := .cells #[.int .i64 a1_0, .int .i64 a1_1, .int .i64 a1_2, .int .i64 a1_3, .string a1_4, .int .i64 a1_5] 80 (0, 0)) (bk Z5)) (below_size bq))
           have _ := bb (bk Z5) hb
           have _ := bs hb
           clear Z74 Z5 HB
           rename_i Z74 Z78 Z5 HB
           clear hb Z77
           refine hK.out _ _ ⟨(blk_cell Z5.out 0).trans rfl, (blk_cell Z5.out 1).trans rfl, (blk_cell Z5.out 2).trans rfl, (blk_cell Z5.out 3).trans rfl, (blk_cell Z5.out 4).trans rfl, (blk_cell Z5.out 5).trans rfl⟩ (fun hHeld => ?_)
           clear hK K
           refine nm 20 ?_
           refine oe 4 24 (bl 13 1919) (fun K hK => ?_)
           refine Kd.R_append_rows_step k80 (w0 := w) w.heap.size (by rfl) (.tmp 20) (.tmp 23) 78 80 (.agg #[(.int .i64 0), (.int .i64 0), (.int .i64 0), (.int .i64 0), (.string ⟨#[]⟩), (.int .i64 0)]) 56 rfl Tryz.underlying78 info80 rfl (by decide) (by omega) Z75 Z11 Z19 _ _ _ (fun k_ => some k_ ≠ (Z71 : Value).ownBlock ∧ k_ ≠ Z3) (fun _ => False) rfl rfl ?aO ?aR (fun _ _ h => h) (fun _ h => h.elim) ?aF ?aB ?aS ?aL ?_
           (case aR => exact sc Z49)
           (case aB => exact bq)
           (case aF => exact (fun k_ hk => ⟨Kd.fresh' (Kd.R_lt (rq Z74)) k_ hk, Kd.freshB (g := Z3) (o := .cells #[.int .i64 a1_0, .int .i64 a1_1, .int .i64 a1_2, .int .i64 a1_3, .string a1_4, .int .i64 a1_5] 80 (0, 0)) (bk Z5) k_ hk⟩))
           (case aO => exact (by (with_reducible repeat (first | apply Kd.R_alloc | apply Kd.R_drewN | apply Kd.R_drew)); exact Kd.R_mono Z78.out (fun _ hk => ⟨hk.1.2, hk.2⟩)))
           (case aS => exact (below_size bq))
           (case aL => have := Z22.out; omega)
           intro Z79 Z80 ho hb hg hat
           rw [← Z24.out] at ho
           have _ := ra (blk_grown (g := Z3) (o := .cells #[.int .i64 a1_0, .int .i64 a1_1, .int .i64 a1_2, .int .i64 a1_3, .string a1_4, .int .i64 a1_5] 80 (0, 0)) (bk Z5) hg (Kd.R_away Z78.out (fun _ hk => hk.2)))
           have _ := ra (Kd.R_after (ok := (fun k_ => k_ ≠ Z3)) (by (with_reducible repeat (first | apply Kd.R_alloc | apply Kd.R_drewN | apply Kd.R_drew)); exact Kd.R_mono Z74.out (fun _ hk => ⟨hk.1.2, hk.2⟩)) hg hat)
           have _ := ra (hb)
           have _ := ra (ho)
           clear Z5 Z74 HB Z78
           rename_i Z5 Z74 HB Z81
           clear ho hb hg hat
           refine hK.out _ _ ⟨(blk_cell Z5.out 0).trans rfl, (blk_cell Z5.out 1).trans rfl, (blk_cell Z5.out 2).trans rfl, (blk_cell Z5.out 3).trans rfl, (blk_cell Z5.out 4).trans rfl, (blk_cell Z5.out 5).trans rfl⟩ (fun hHeld => ?_)
           clear hK K
           refine nm 24 ?_
           exact norm_ (by simp only [putAll, Act.put, List.setIfInBounds_toArray, List.set_cons_zero, List.set_cons_succ]) (hCont (Z75, Z79, Z71) _ ⟨hHeld, (rq Z81), (by (with_reducible repeat (first | apply Kd.R_alloc | apply Kd.R_drewN | apply Kd.R_drew)); exact Kd.R_mono Z74.out (fun _ hk => ⟨hk.2, hk.1⟩)), (bk Z5), bq⟩)
         rintro ⟨Z71, Z72, Z73⟩ Z74 ⟨hS_, Z75, Z76, Z77, Z78⟩
         have _ : Aside0 (Kd.R k80 80 Z74 w.heap.size (fun k_ => some k_ ≠ (Z73 : Value).ownBlock ∧ k_ ≠ Z3) Z72 Z23) := ⟨Z75⟩
         have _ : Aside0 (Kd.R k80 80 Z74 w.heap.size (fun k_ => some k_ ≠ (Z72 : Value).ownBlock ∧ k_ ≠ Z3) Z73 Z25) := ⟨Z76⟩
         have _ : Aside0 (Z74.heap[Z3]? = some (.cells #[.int .i64 a1_0, .int .i64 a1_1, .int .i64 a1_2, .int .i64 a1_3, .string a1_4, .int .i64 a1_5] 80 (0, 0))) := ⟨Z77⟩
         have _ : Aside0 (Below w.heap.size w Z74) := ⟨Z78⟩
         clear Z5 HB
         clear Z75 Z76 Z77 Z78
         rename_i Z79 Z80 Z5 HB
         have hHeld : Z74.cell? ⟨Z3, 0, none⟩ = some (.int .i64 a1_0) ∧ Z74.cell? ⟨Z3, 1, none⟩ = some (.int .i64 a1_1) ∧ Z74.cell? ⟨Z3, 2, none⟩ = some (.int .i64 a1_2) ∧ Z74.cell? ⟨Z3, 3, none⟩ = some (.int .i64 a1_3) ∧ Z74.cell? ⟨Z3, 4, none⟩ = some (.string a1_4) ∧ Z74.cell? ⟨Z3, 5, none⟩ = some (.int .i64 a1_5) := hS_
         obtain ⟨Z81, Z82, Z83⟩ := Kd.R_slice Z80.out
         (first | subst Z83 | (injection Z83 with f1_ f2_ f3_; have Z84 := f1_.symm; have Z85 := f3_.symm; clear f1_ f2_ f3_; subst Z84; subst Z85))
         refine norm_ (a' := ?_) ?_ ?_
         rotate_left
         ·simp only [putAll, Act.put, List.setIfInBounds_toArray, List.set_cons_zero, List.set_cons_succ]
          rfl
         refine oe 7 27 (bl 13 2047) (fun K hK => ?_)
         refine Kd.R_append_rows_step k80 (w0 := w) w.heap.size (by rfl) (.tmp 24) (.tmp 26) 78 80 (.agg #[(.int .i64 0), (.int .i64 0), (.int .i64 0), (.int .i64 0), (.string ⟨#[]⟩), (.int .i64 0)]) 56 rfl Tryz.underlying78 info80 rfl (by decide) (by omega) Z72 Z23 Z25 _ _ _ (fun k_ => some k_ ≠ (.slice Z81 Z25.length Z82 : Value).ownBlock ∧ k_ ≠ Z3) (fun _ => False) rfl rfl ?aO ?aR (fun _ _ h => h) (fun _ h => h.elim) ?aF ?aB ?aS ?aL ?_
         (case aR => exact sr Z80)
         (case aB => exact bq)
         (case aF => exact (fun k_ hk => ⟨Kd.fresh' (Kd.R_lt (rq Z80)) k_ hk, Kd.freshB (g := Z3) (o := .cells #[.int .i64 a1_0, .int .i64 a1_1, .int .i64 a1_2, .int .i64 a1_3, .string a1_4, .int .i64 a1_5] 80 (0, 0)) (bk Z5) k_ hk⟩))
         (case aO => exact (rq Z79))
         (case aS => exact (below_size bq))
         (case aL => have := Z28.out; omega)
         intro Z86 Z87 ho hb hg hat
         rw [← Z30.out] at ho
         have _ := ra (blk_grown (g := Z3) (o := .cells #[.int .i64 a1_0, .int .i64 a1_1, .int .i64 a1_2, .int .i64 a1_3, .string a1_4, .int .i64 a1_5] 80 (0, 0)) (bk Z5) hg (Kd.R_away Z79.out (fun _ hk => hk.2)))
         have _ := ra (Kd.R_after (ok := (fun k_ => k_ ≠ Z3)) (by (with_reducible repeat (first | apply Kd.R_alloc | apply Kd.R_drewN | apply Kd.R_drew)); exact Kd.R_mono Z80.out (fun _ hk => ⟨hk.2, hk.1⟩)) hg hat)
         have _ := ra (hb)
         have _ := ra (ho)
         clear Z5 Z80 HB Z79
         rename_i Z5 Z80 HB Z88
         clear ho hb hg hat
         refine hK.out _ _ ⟨(blk_cell Z5.out 0).trans rfl, (blk_cell Z5.out 1).trans rfl, (blk_cell Z5.out 2).trans rfl, (blk_cell Z5.out 3).trans rfl, (blk_cell Z5.out 4).trans rfl, (blk_cell Z5.out 5).trans rfl⟩ (fun hHeld => ?_)
         clear hK K
         refine nm 27 ?_
         refine oe 11 31 (bl 13 4095) (fun K hK => ?_)
         refine Kd.R_append_rows_step k80 (w0 := w) w.heap.size (by rfl) (.tmp 27) (.tmp 30) 78 80 (.agg #[(.int .i64 0), (.int .i64 0), (.int .i64 0), (.int .i64 0), (.string ⟨#[]⟩), (.int .i64 0)]) 56 rfl Tryz.underlying78 info80 rfl (by decide) (by omega) Z86 Z29 Z33 _ _ _ (fun k_ => some k_ ≠ (.slice Z81 Z25.length Z82 : Value).ownBlock ∧ k_ ≠ Z3) (fun _ => False) rfl rfl ?aO ?aR (fun _ _ h => h) (fun _ h => h.elim) ?aF ?aB ?aS ?aL ?_
         (case aR => exact sc Z66)
         (case aB => exact bq)
         (case aF => exact (fun k_ hk => ⟨Kd.fresh' (Kd.R_lt (rq Z80)) k_ hk, Kd.freshB (g := Z3) (o := .cells #[.int .i64 a1_0, .int .i64 a1_1, .int .i64 a1_2, .int .i64 a1_3, .string a1_4, .int .i64 a1_5] 80 (0, 0)) (bk Z5) k_ hk⟩))
         (case aO => exact (rq Z88))
         (case aS => exact (below_size bq))
         (case aL => have := Z36.out; omega)
         intro Z89 Z90 ho hb hg hat
         rw [← Z38.out] at ho
         have _ := ra (blk_grown (g := Z3) (o := .cells #[.int .i64 a1_0, .int .i64 a1_1, .int .i64 a1_2, .int .i64 a1_3, .string a1_4, .int .i64 a1_5] 80 (0, 0)) (bk Z5) hg (Kd.R_away Z88.out (fun _ hk => hk.2)))
         have _ := ra (Kd.R_after (ok := (fun k_ => k_ ≠ Z3)) (rq Z80) hg hat)
         have _ := ra (hb)
         have _ := ra (ho)
         clear Z5 Z80 HB Z88
         rename_i Z5 Z80 HB Z91
         clear ho hb hg hat
         refine hK.out _ _ ⟨(blk_cell Z5.out 0).trans rfl, (blk_cell Z5.out 1).trans rfl, (blk_cell Z5.out 2).trans rfl, (blk_cell Z5.out 3).trans rfl, (blk_cell Z5.out 4).trans rfl, (blk_cell Z5.out 5).trans rfl⟩ (fun hHeld => ?_)
         clear hK K
         refine nm 31 ?_
         refine pu 12 4 (bl 13 8191) ?_
         refine done_ (done_of HT_.out (by kernel_rfl)) ?_
         try go_wp2
         go_ret
         exact ⟨_, re, by (with_reducible repeat (first | apply Kd.R_alloc | apply Kd.R_drewN | apply Kd.R_drew)); exact Kd.R_mono Z91.out (fun _ hk => trivial), bq⟩
        ·rw [if_neg Z35] at H
         exact absurd H (by simp)
       ·rw [if_neg Z27] at H
        exact absurd H (by simp)
      ·rw [if_neg Z21] at H
       exact absurd H (by simp)
     ·rw [if_neg Z16] at H
      exact absurd H (by simp)
    ·rw [if_neg Z13] at H
     exact absurd H (by simp)
end Go.Proofs.YtgklmafdbgnohaaGreat.PA
end
