/- Contracts of the program's and the reference's functions (they began as prints of the kit's tool; shortened and joined). No condition beside what the Lean functions say. -/
import Derived.Test.YtgklmafdbgnohaaFPAd4
import Derived.Test.YtgklmafdbgnohaaFZCx5
section
namespace Go.Proofs.Ytgklmafdbgnohaa.PA
open Go.RowKit Go.Proofs.YtgklmafdbgnohaaW.PrintWords Go.Proofs.YtgklmafdbgnohaaW.PrintLast Go.Proofs.YtgklmafdbgnohaaW.PrintMore Go.Proofs.Ytgklmafdbgnohaa.Z
attribute [local go_sem] max2_int min2_int max_two min_two max_three min_three max_four min_four
set_option linter.unusedVariables false
set_option linter.unusedSimpArgs false
set_option maxHeartbeats 8000000 in
set_option maxRecDepth 100000 in
theorem spec_l5Before.calls (a0_0 : Int) (a0_1 : Int) (a0_2 : Int) (a0_3 : Int) (a0_4 : ByteArray) (a0_5 : Int) (a1_0 : Int) (a1_1 : Int) (a1_2 : Int) (a1_3 : Int) (a1_4 : ByteArray) (a1_5 : Int) (r : Bool) (w : World) (h : spec_l5Before.f a0_0 a0_1 a0_2 a0_3 a0_4 a0_5 a1_0 a1_1 a1_2 a1_3 a1_4 a1_5 = some r) :
  Calls Try.prog 43 #[.agg #[.int .i64 a0_0, .int .i64 a0_1, .int .i64 a0_2, .int .i64 a0_3, .string a0_4, .int .i64 a0_5], .agg #[.int .i64 a1_0, .int .i64 a1_1, .int .i64 a1_2, .int .i64 a1_3, .string a1_4, .int .i64 a1_5]] w fun e w' => e = .returned (.bool r) ∧ Below w.heap.size w w' := by
 have hu52 := Try.underlying52
 have HB := ra (Below.refl w.heap.size w)
 have H : (if a0_0 = a1_0 then (if a0_4.toList = a1_4.toList then (some (decide (a0_5 < a1_5))) else (some (Op.bytesLess a0_4.toList a1_4.toList))) else (some (decide (a0_0 < a1_0)))) = some r := h
 clear h
 by_cases c3 : a0_0 = a1_0
 ·rw [if_pos c3] at H
  have c3b0 : (a0_0 == a1_0) = true := beq_iff_eq.mpr c3
  have c3b1 : (a0_0 != a1_0) = false := bne_eq_false_iff_eq.mpr c3
  clear c3
  by_cases c4 : a0_4.toList = a1_4.toList
  ·rw [if_pos c4] at H
   have c4b0 : (a0_4.toList == a1_4.toList) = true := beq_iff_eq.mpr c4
   have c4b1 : (a0_4.toList != a1_4.toList) = false := bne_eq_false_iff_eq.mpr c4
   clear c4
   obtain rfl := Option.some.inj H
   go_enter Try.func43, Try.ntmps43
   go_wp2_with (first | ((with_reducible refine gate_dst (N := 2) rfl ?_); refine be 2 #[.int .i64 a0_0, .int .i64 a0_1, .int .i64 a0_2, .int .i64 a0_3, .string a0_4, .int .i64 a0_5] 52 ?_; intro gb119 hg w5 hbox hb; have _ := bs hb; have _ := ra (hbox); have _ := bz (w0 := w) hg; have _ := bz (w0 := w) hg; clear HB; rename_i HB BK119 GW119 GE119; clear hb hbox hg) | ((with_reducible refine gate_dst (N := 3) rfl ?_); refine be 3 #[.int .i64 a1_0, .int .i64 a1_1, .int .i64 a1_2, .int .i64 a1_3, .string a1_4, .int .i64 a1_5] 52 ?_; intro gb120 hg w6 hbox hb; have _ := bb (bk BK119) hb; have _ := bs hb; have _ := ra (hbox); have _ := bz (w0 := w) hg; have _ := bz (w0 := w) hg; have _ := bn hg (bk BK119); have _ := bm hg (bk BK119); clear BK119 HB; rename_i BK119 HB BK120 GW120 GE120 NB119_120 NB120_119; clear hb hbox hg; have hnb7 := NB119_120.out; have hnc7 := NB120_119.out; obtain ⟨hcz8_0, hcz8_1, hcz8_2, hcz8_3, hcz8_4, hcz8_5, hfz8_0, hfz8_1, hfz8_2, hfz8_3, hfz8_4, hfz8_5⟩ := zc6 BK119; obtain ⟨hcz9_0, hcz9_1, hcz9_2, hcz9_3, hcz9_4, hcz9_5, hfz9_0, hfz9_1, hfz9_2, hfz9_3, hfz9_4, hfz9_5⟩ := zc6 BK120))
   go_ret
   exact ⟨re, bq⟩
  ·rw [if_neg c4] at H
   have c4b0 : (a0_4.toList == a1_4.toList) = false := beq_eq_false_iff_ne.mpr c4
   have c4b1 : (a0_4.toList != a1_4.toList) = true := bne_iff_ne.mpr c4
   obtain rfl := Option.some.inj H
   go_enter Try.func43, Try.ntmps43
   go_wp2_with (first | ((with_reducible refine gate_dst (N := 2) rfl ?_); refine be 2 #[.int .i64 a0_0, .int .i64 a0_1, .int .i64 a0_2, .int .i64 a0_3, .string a0_4, .int .i64 a0_5] 52 ?_; intro gb119 hg w10 hbox hb; have _ := bs hb; have _ := ra (hbox); have _ := bz (w0 := w) hg; have _ := bz (w0 := w) hg; clear HB; rename_i HB BK119 GW119 GE119; clear hb hbox hg) | ((with_reducible refine gate_dst (N := 3) rfl ?_); refine be 3 #[.int .i64 a1_0, .int .i64 a1_1, .int .i64 a1_2, .int .i64 a1_3, .string a1_4, .int .i64 a1_5] 52 ?_; intro gb120 hg w11 hbox hb; have _ := bb (bk BK119) hb; have _ := bs hb; have _ := ra (hbox); have _ := bz (w0 := w) hg; have _ := bz (w0 := w) hg; have _ := bn hg (bk BK119); have _ := bm hg (bk BK119); clear BK119 HB; rename_i BK119 HB BK120 GW120 GE120 NB119_120 NB120_119; clear hb hbox hg; have hnb12 := NB119_120.out; have hnc12 := NB120_119.out; obtain ⟨hcz13_0, hcz13_1, hcz13_2, hcz13_3, hcz13_4, hcz13_5, hfz13_0, hfz13_1, hfz13_2, hfz13_3, hfz13_4, hfz13_5⟩ := zc6 BK119; obtain ⟨hcz14_0, hcz14_1, hcz14_2, hcz14_3, hcz14_4, hcz14_5, hfz14_0, hfz14_1, hfz14_2, hfz14_3, hfz14_4, hfz14_5⟩ := zc6 BK120))
   go_ret
   exact ⟨re, bq⟩
 ·rw [if_neg c3] at H
  have c3b0 : (a0_0 == a1_0) = false := beq_eq_false_iff_ne.mpr c3
  have c3b1 : (a0_0 != a1_0) = true := bne_iff_ne.mpr c3
  obtain rfl := Option.some.inj H
  go_enter Try.func43, Try.ntmps43
  go_wp2_with (first | ((with_reducible refine gate_dst (N := 2) rfl ?_); refine be 2 #[.int .i64 a0_0, .int .i64 a0_1, .int .i64 a0_2, .int .i64 a0_3, .string a0_4, .int .i64 a0_5] 52 ?_; intro gb119 hg w15 hbox hb; have _ := bs hb; have _ := ra (hbox); have _ := bz (w0 := w) hg; have _ := bz (w0 := w) hg; clear HB; rename_i HB BK119 GW119 GE119; clear hb hbox hg) | ((with_reducible refine gate_dst (N := 3) rfl ?_); refine be 3 #[.int .i64 a1_0, .int .i64 a1_1, .int .i64 a1_2, .int .i64 a1_3, .string a1_4, .int .i64 a1_5] 52 ?_; intro gb120 hg w16 hbox hb; have _ := bb (bk BK119) hb; have _ := bs hb; have _ := ra (hbox); have _ := bz (w0 := w) hg; have _ := bz (w0 := w) hg; have _ := bn hg (bk BK119); have _ := bm hg (bk BK119); clear BK119 HB; rename_i BK119 HB BK120 GW120 GE120 NB119_120 NB120_119; clear hb hbox hg; have hnb17 := NB119_120.out; have hnc17 := NB120_119.out; obtain ⟨hcz18_0, hcz18_1, hcz18_2, hcz18_3, hcz18_4, hcz18_5, hfz18_0, hfz18_1, hfz18_2, hfz18_3, hfz18_4, hfz18_5⟩ := zc6 BK119; obtain ⟨hcz19_0, hcz19_1, hcz19_2, hcz19_3, hcz19_4, hcz19_5, hfz19_0, hfz19_1, hfz19_2, hfz19_3, hfz19_4, hfz19_5⟩ := zc6 BK120))
  go_ret
  exact ⟨re, bq⟩
def spec_l5Slot.T2 : Bool × List (List Nat × List Nat) := (true, [([], []), ([], []), ([1], [1]), ([0, 2], [0, 2]), ([3], [3]), ([4], [4]), ([4], [4]), ([5, 6, 4], [4, 5, 6]), ([7, 4], [4, 7]), ([4], [4]), ([8, 9, 4, 4], [4, 8, 9]), ([4, 10], [4, 10])])
def spec_l5Slot.B2 : List Nat := [0, 0, 2, 7, 15, 31, 31, 127, 255, 31, 1023, 2047]
theorem spec_l5Slot.tab2 : rtab .any (opsOf Try.f29 2) = spec_l5Slot.T2 := by kernel_rfl
theorem spec_l5Slot.bits2 : waitsOk spec_l5Slot.T2.2 spec_l5Slot.B2 = true := by kernel_rfl
def spec_l5Slot.T4 : Bool × List (List Nat × List Nat) := (true, [([], []), ([], []), ([], []), ([1, 2], [1, 2]), ([0, 3], [0, 3]), ([], []), ([5], [5]), ([4, 6, 4], [4, 6]), ([], []), ([], []), ([8, 9], [8, 9]), ([7, 10, 7], [7, 10]), ([11, 11, 0, 1, 2, 3, 4, 5, 6, 7, 8, 9, 10, 11], [11])])
def spec_l5Slot.B4 : List Nat := [0, 0, 0, 6, 15, 0, 32, 127, 0, 0, 768, 2047, 4095]
theorem spec_l5Slot.tab4 : rtab .any (opsOf Try.f29 4) = spec_l5Slot.T4 := by kernel_rfl
theorem spec_l5Slot.bits4 : waitsOk spec_l5Slot.T4.2 spec_l5Slot.B4 = true := by kernel_rfl
set_option maxHeartbeats 8000000 in
set_option maxRecDepth 100000 in
theorem spec_l5Slot.calls (k : Nat) (A0 : Option Addr) (c0 : Nat) (l0 : List (S52)) (a1_0 : Int) (a1_1 : Int) (a1_2 : Int) (a1_3 : Int) (a1_4 : ByteArray) (a1_5 : Int) (r : List (S52)) (w : World) (hr0 : Kd.C k52 w A0 l0.length l0) (hc0 : l0.length ≤ c0) (h : spec_l5Slot.f k l0 a1_0 a1_1 a1_2 a1_3 a1_4 a1_5 = some r) :
  Calls Try.prog 29 #[.slice A0 l0.length c0, .agg #[.int .i64 a1_0, .int .i64 a1_1, .int .i64 a1_2, .int .i64 a1_3, .string a1_4, .int .i64 a1_5]] w fun e w' => ∃ v0_ : Value, e = .returned (v0_) ∧ Kd.R k52 52 w' w.heap.size (fun _ => True) v0_ r ∧ Below w.heap.size w w' := by
 have hu52 := Try.underlying52
 have HR0 := Aside0.mk hr0
 have HC0 := Aside0.mk hc0
 clear hr0 hc0
 have HB := ra (Below.refl w.heap.size w)
 have H : (spec_l5Slot.l0 k l0 0 a1_0 a1_1 a1_2 a1_3 a1_4 a1_5) = some r := h
 clear h
 have H' := Aside0.mk H
 clear H
 go_enter Try.func29, Try.ntmps29
 go_wp2_with (first | ((with_reducible refine gate_dst (N := 3) rfl ?_); refine be 3 #[.int .i64 a1_0, .int .i64 a1_1, .int .i64 a1_2, .int .i64 a1_3, .string a1_4, .int .i64 a1_5] 52 ?_; intro gb121 hg w3 hbox hb; have _ := bs hb; have _ := ra (hbox); have _ := bz (w0 := w) hg; have _ := bz (w0 := w) hg; clear HB; rename_i HB BK121 GW121 GE121; clear hb hbox hg))
 go_loopg [5] k (fun kq v5 w' => ∃ (x5_1 : Int), v5 = .int .i64 x5_1 ∧ Aside0 (spec_l5Slot.l0 kq l0 x5_1 a1_0 a1_1 a1_2 a1_3 a1_4 a1_5 = some r) ∧ Aside0 (kq ≤ k) ∧ Aside0 (w'.heap[gb121]? = some (.cells #[.int .i64 a1_0, .int .i64 a1_1, .int .i64 a1_2, .int .i64 a1_3, .string a1_4, .int .i64 a1_5] 52 (0, 0))) ∧ Aside0 (Below w.heap.size w w'))
 case atStart => exact ⟨(0), rs, H', ⟨Nat.le_refl _⟩, ⟨bk BK121⟩, ⟨bq⟩⟩
 case round =>
  clear H'
  obtain ⟨x5_1, rfl, HA, HK1, BK121, HB⟩ := hrel
  cases gk with
  | zero => exact absurd HA.out (by simp [spec_l5Slot.l0])
  | succ k1 =>
   have H := HA.out
   clear HA
   simp only [spec_l5Slot.l0] at H
   by_cases c4 : x5_1 < (l0.length : Int)
   ·rw [if_pos c4] at H
    have c4b0 : decide (x5_1 < (l0.length : Int)) = true := decide_eq_true c4
    clear c4
    by_cases c5 : 0 ≤ x5_1
    ·rw [if_pos c5] at H
     have c5b0 : decide (0 ≤ x5_1) = true := decide_eq_true c5
     clear c5
     obtain ⟨t123, A6, H⟩ := bo H
     by_cases c7 : t123 = true
     ·subst c7
      replace H := it H rfl
      have H' := Aside0.mk H
      clear H
      try go_wp2
      have _ := ra (blk_drew BK121.out)
      have _ := ra (below_drew1 HB.out)
      clear BK121 HB
      rename_i BK121 HB
      have p122 : 0 ≤ (x5_1 : Int) := od
      have q122 : x5_1 < (l0.length : Int) := od
      obtain ⟨ad122, e122, hx122_0, hx122_1, hx122_2, hx122_3, hx122_4, hx122_5⟩ := at_T52 HR0.out x5_1 p122 q122
      have hw122_5 := hx122_5
      have hw122_4 := hx122_4
      have hw122_3 := hx122_3
      have hw122_2 := hx122_2
      have hw122_1 := hx122_1
      have hw122_0 := hx122_0
      cases e122
      replace hx122_0 := hc HB hx122_0
      replace hx122_1 := hc HB hx122_1
      replace hx122_2 := hc HB hx122_2
      replace hx122_3 := hc HB hx122_3
      replace hx122_4 := hc HB hx122_4
      replace hx122_5 := hc HB hx122_5
      replace p122 := eq_true p122
      replace q122 := eq_true q122
      refine start_ (n := 12) (S := fun w' => w'.cell? ⟨gb121, 0, none⟩ = some (.int .i64 a1_0) ∧ w'.cell? ⟨gb121, 1, none⟩ = some (.int .i64 a1_1) ∧ w'.cell? ⟨gb121, 2, none⟩ = some (.int .i64 a1_2) ∧ w'.cell? ⟨gb121, 3, none⟩ = some (.int .i64 a1_3) ∧ w'.cell? ⟨gb121, 4, none⟩ = some (.string a1_4) ∧ w'.cell? ⟨gb121, 5, none⟩ = some (.int .i64 a1_5) ∧ w'.cell? (ad122.add ((x5_1).toNat * 6)) = some (.int .i64 ((rd_T52 l0 x5_1).f0)) ∧ w'.cell? ⟨(ad122.add ((x5_1).toNat * 6)).block, (ad122.add ((x5_1).toNat * 6)).off + 1, none⟩ = some (.int .i64 ((rd_T52 l0 x5_1).f1)) ∧ w'.cell? ⟨(ad122.add ((x5_1).toNat * 6)).block, (ad122.add ((x5_1).toNat * 6)).off + 2, none⟩ = some (.int .i64 ((rd_T52 l0 x5_1).f2)) ∧ w'.cell? ⟨(ad122.add ((x5_1).toNat * 6)).block, (ad122.add ((x5_1).toNat * 6)).off + 3, none⟩ = some (.int .i64 ((rd_T52 l0 x5_1).f3)) ∧ w'.cell? ⟨(ad122.add ((x5_1).toNat * 6)).block, (ad122.add ((x5_1).toNat * 6)).off + 4, none⟩ = some (.string ((rd_T52 l0 x5_1).f4)) ∧ w'.cell? ⟨(ad122.add ((x5_1).toNat * 6)).block, (ad122.add ((x5_1).toNat * 6)).off + 5, none⟩ = some (.int .i64 ((rd_T52 l0 x5_1).f5))) (ds := []) (bl 12 0) (by kernel_rfl) rfl rfl ⟨(blk_cell BK121.out 0).trans rfl, (blk_cell BK121.out 1).trans rfl, (blk_cell BK121.out 2).trans rfl, (blk_cell BK121.out 3).trans rfl, (blk_cell BK121.out 4).trans rfl, (blk_cell BK121.out 5).trans rfl, (hc HB hw122_0), (hc HB hw122_1), (hc HB hw122_2), (hc HB hw122_3), (hc HB hw122_4), (hc HB hw122_5)⟩ (fun hHeld => ?_); refine with_tabW spec_l5Slot.tab2 spec_l5Slot.bits2 (fun HT_ HW_ => ?_)
      generalize wr.drew = w8 at BK121 HB hx122_0 hx122_1 hx122_2 hx122_3 hx122_4 hx122_5 hHeld ⊢
      refine pu 0 6 (bl 12 1) ?_
      refine pu 1 7 (bl 12 3) ?_
      refine pu 2 8 (bl 12 7) ?_
      refine pu 3 9 (bl 12 15) ?_
      refine pu 4 10 (bl 12 31) ?_
      refine pu 5 11 (bl 12 63) ?_
      refine pu 6 12 (bl 12 127) ?_
      refine pu 7 13 (bl 12 255) ?_
      refine tk 8 14 (bl 12 511) ?_ hHeld
      refine tk 9 15 (bl 12 1023) ?_ hHeld
      refine oe 10 16 (bl 12 2047) (fun K hK => ?_)
      refine gs Try.func43 #[.agg #[.int .i64 ((rd_T52 l0 x5_1).f0), .int .i64 ((rd_T52 l0 x5_1).f1), .int .i64 ((rd_T52 l0 x5_1).f2), .int .i64 ((rd_T52 l0 x5_1).f3), .string ((rd_T52 l0 x5_1).f4), .int .i64 ((rd_T52 l0 x5_1).f5)], .agg #[.int .i64 a1_0, .int .i64 a1_1, .int .i64 a1_2, .int .i64 a1_3, .string a1_4, .int .i64 a1_5]] ?_
      with_reducible refine (spec_l5Before.calls ((rd_T52 l0 x5_1).f0) ((rd_T52 l0 x5_1).f1) ((rd_T52 l0 x5_1).f2) ((rd_T52 l0 x5_1).f3) ((rd_T52 l0 x5_1).f4) ((rd_T52 l0 x5_1).f5) a1_0 a1_1 a1_2 a1_3 a1_4 a1_5 true _ A6.out).mono ?_
      rintro e w9 ⟨rfl, hb⟩
      refine ⟨_, rfl, ?_⟩
      have _ := bb (bk BK121) hb
      have _ := bs hb
      clear BK121 HB
      rename_i BK121 HB
      (try clear hb)
      (try clear hb2)
      (try clear hk)
      (try clear hi)
      refine hK.out _ _ ⟨(blk_cell BK121.out 0).trans rfl, (blk_cell BK121.out 1).trans rfl, (blk_cell BK121.out 2).trans rfl, (blk_cell BK121.out 3).trans rfl, (blk_cell BK121.out 4).trans rfl, (blk_cell BK121.out 5).trans rfl, (hc HB hw122_0), (hc HB hw122_1), (hc HB hw122_2), (hc HB hw122_3), (hc HB hw122_4), (hc HB hw122_5)⟩ (fun hHeld => ?_)
      clear hK K
      refine nm 16 ?_
      refine pu 11 17 (bl 12 4095) ?_
      refine done_ (done_of HT_.out (by kernel_rfl)) ?_
      try go_wp2
      go_roundg k1
      case measure => have := HK1.out; omega
      case rel => exact ⟨(wrap64 (x5_1 + 1)), rs, H', ⟨by have := HK1.out; omega⟩, ⟨bk BK121⟩, ⟨bq⟩⟩
     ·replace c7 := Bool.eq_false_iff.mpr c7
      subst c7
      have H1 : ((some (([] : List (S52)) : List (S52))).bind fun y124 => (if x5_1 ≤ (l0.length : Int) then ((some (l0.take (x5_1 : Int).toNat : List (S52))).bind fun y127 => (if y124.length + y127.length < 2513169434916 then ((some (y124 ++ y127 : List (S52))).bind fun y131 => ((some (([(⟨a1_0, a1_1, a1_2, a1_3, a1_4, a1_5⟩ : S52)] : List (S52)) : List (S52))).bind fun y134 => (if y131.length + y134.length < 2513169434916 then ((some (y131 ++ y134 : List (S52))).bind fun y137 => ((some (l0.drop (x5_1 : Int).toNat : List (S52))).bind fun y140 => (if y137.length + y140.length < 2513169434916 then (some (y137 ++ y140)) else (none)))) else (none)))) else (none))) else (none))) = some r := by rw [if_neg (show ¬ (false = true) by decide)] at H; exact H
      clear H
      have H := H1
      clear H1
      obtain ⟨y124, hy_⟩ : ∃ y_ : List (S52), y_ = (([] : List (S52))) := ⟨_, rfl⟩
      replace H : (if x5_1 ≤ (l0.length : Int) then ((some (l0.take (x5_1 : Int).toNat : List (S52))).bind fun y127 => (if y124.length + y127.length < 2513169434916 then ((some (y124 ++ y127 : List (S52))).bind fun y131 => ((some (([(⟨a1_0, a1_1, a1_2, a1_3, a1_4, a1_5⟩ : S52)] : List (S52)) : List (S52))).bind fun y134 => (if y131.length + y134.length < 2513169434916 then ((some (y131 ++ y134 : List (S52))).bind fun y137 => ((some (l0.drop (x5_1 : Int).toNat : List (S52))).bind fun y140 => (if y137.length + y140.length < 2513169434916 then (some (y137 ++ y140)) else (none)))) else (none)))) else (none))) else (none)) = some r := yh
      have Ny124 := ra hy_
      clear hy_
      have c10b0 := eq_true (od : 0 ≤ x5_1)
      by_cases c11 : x5_1 ≤ (l0.length : Int)
      ·rw [if_pos c11] at H
       have c11b0 := eq_true c11
       have c11b1 : decide (x5_1 ≤ (l0.length : Int)) = true := decide_eq_true c11
       clear c11
       obtain ⟨y127, hy_⟩ : ∃ y_ : List (S52), y_ = (l0.take (x5_1 : Int).toNat) := ⟨_, rfl⟩
       replace H : (if y124.length + y127.length < 2513169434916 then ((some (y124 ++ y127 : List (S52))).bind fun y131 => ((some (([(⟨a1_0, a1_1, a1_2, a1_3, a1_4, a1_5⟩ : S52)] : List (S52)) : List (S52))).bind fun y134 => (if y131.length + y134.length < 2513169434916 then ((some (y131 ++ y134 : List (S52))).bind fun y137 => ((some (l0.drop (x5_1 : Int).toNat : List (S52))).bind fun y140 => (if y137.length + y140.length < 2513169434916 then (some (y137 ++ y140)) else (none)))) else (none)))) else (none)) = some r := yh
       have Ny127 := ra hy_
       clear hy_
       by_cases c12 : y124.length + y127.length < 2513169434916
       ·rw [if_pos c12] at H
        have LMc12 := Aside0.mk c12
        clear c12
        obtain ⟨y131, hy_⟩ : ∃ y_ : List (S52), y_ = (y124 ++ y127) := ⟨_, rfl⟩
        replace H : ((some (([(⟨a1_0, a1_1, a1_2, a1_3, a1_4, a1_5⟩ : S52)] : List (S52)) : List (S52))).bind fun y134 => (if y131.length + y134.length < 2513169434916 then ((some (y131 ++ y134 : List (S52))).bind fun y137 => ((some (l0.drop (x5_1 : Int).toNat : List (S52))).bind fun y140 => (if y137.length + y140.length < 2513169434916 then (some (y137 ++ y140)) else (none)))) else (none))) = some r := yh
        have Ny131 := ra hy_
        clear hy_
        obtain ⟨y134, hy_⟩ : ∃ y_ : List (S52), y_ = (([(⟨a1_0, a1_1, a1_2, a1_3, a1_4, a1_5⟩ : S52)] : List (S52))) := ⟨_, rfl⟩
        replace H : (if y131.length + y134.length < 2513169434916 then ((some (y131 ++ y134 : List (S52))).bind fun y137 => ((some (l0.drop (x5_1 : Int).toNat : List (S52))).bind fun y140 => (if y137.length + y140.length < 2513169434916 then (some (y137 ++ y140)) else (none)))) else (none)) = some r := yh
        have Ny134 := ra hy_
        clear hy_
        by_cases c13 : y131.length + y134.length < 2513169434916
        ·rw [if_pos c13] at H
         have LMc13 := Aside0.mk c13
         clear c13
         obtain ⟨y137, hy_⟩ : ∃ y_ : List (S52), y_ = (y131 ++ y134) := ⟨_, rfl⟩
         replace H : ((some (l0.drop (x5_1 : Int).toNat : List (S52))).bind fun y140 => (if y137.length + y140.length < 2513169434916 then (some (y137 ++ y140)) else (none))) = some r := yh
         have Ny137 := ra hy_
         clear hy_
         have c14b0 := eq_true (od : 0 ≤ x5_1)
         have c15b0 := eq_true (od : x5_1 ≤ (l0.length : Int))
         obtain ⟨y140, hy_⟩ : ∃ y_ : List (S52), y_ = (l0.drop (x5_1 : Int).toNat) := ⟨_, rfl⟩
         replace H : (if y137.length + y140.length < 2513169434916 then (some (y137 ++ y140)) else (none)) = some r := yh
         have Ny140 := ra hy_
         clear hy_
         by_cases c16 : y137.length + y140.length < 2513169434916
         ·rw [if_pos c16] at H
          have LMc16 := Aside0.mk c16
          clear c16
          obtain ⟨y144, hy_⟩ : ∃ y_ : List (S52), y_ = (y137 ++ y140) := ⟨_, rfl⟩
          replace H : (some y144) = some r := yh
          have Ny144 := ra hy_
          clear hy_
          obtain rfl := Option.some.inj H
          try go_wp2
          have _ := ra (blk_drew BK121.out)
          have _ := ra (below_drew1 HB.out)
          clear BK121 HB
          rename_i BK121 HB
          have p122 : 0 ≤ (x5_1 : Int) := od
          have q122 : x5_1 < (l0.length : Int) := od
          obtain ⟨ad122, e122, hx122_0, hx122_1, hx122_2, hx122_3, hx122_4, hx122_5⟩ := at_T52 HR0.out x5_1 p122 q122
          have hw122_5 := hx122_5
          have hw122_4 := hx122_4
          have hw122_3 := hx122_3
          have hw122_2 := hx122_2
          have hw122_1 := hx122_1
          have hw122_0 := hx122_0
          cases e122
          replace hx122_0 := hc HB hx122_0
          replace hx122_1 := hc HB hx122_1
          replace hx122_2 := hc HB hx122_2
          replace hx122_3 := hc HB hx122_3
          replace hx122_4 := hc HB hx122_4
          replace hx122_5 := hc HB hx122_5
          replace p122 := eq_true p122
          replace q122 := eq_true q122
          refine start_ (n := 12) (S := fun w' => w'.cell? ⟨gb121, 0, none⟩ = some (.int .i64 a1_0) ∧ w'.cell? ⟨gb121, 1, none⟩ = some (.int .i64 a1_1) ∧ w'.cell? ⟨gb121, 2, none⟩ = some (.int .i64 a1_2) ∧ w'.cell? ⟨gb121, 3, none⟩ = some (.int .i64 a1_3) ∧ w'.cell? ⟨gb121, 4, none⟩ = some (.string a1_4) ∧ w'.cell? ⟨gb121, 5, none⟩ = some (.int .i64 a1_5) ∧ w'.cell? (ad122.add ((x5_1).toNat * 6)) = some (.int .i64 ((rd_T52 l0 x5_1).f0)) ∧ w'.cell? ⟨(ad122.add ((x5_1).toNat * 6)).block, (ad122.add ((x5_1).toNat * 6)).off + 1, none⟩ = some (.int .i64 ((rd_T52 l0 x5_1).f1)) ∧ w'.cell? ⟨(ad122.add ((x5_1).toNat * 6)).block, (ad122.add ((x5_1).toNat * 6)).off + 2, none⟩ = some (.int .i64 ((rd_T52 l0 x5_1).f2)) ∧ w'.cell? ⟨(ad122.add ((x5_1).toNat * 6)).block, (ad122.add ((x5_1).toNat * 6)).off + 3, none⟩ = some (.int .i64 ((rd_T52 l0 x5_1).f3)) ∧ w'.cell? ⟨(ad122.add ((x5_1).toNat * 6)).block, (ad122.add ((x5_1).toNat * 6)).off + 4, none⟩ = some (.string ((rd_T52 l0 x5_1).f4)) ∧ w'.cell? ⟨(ad122.add ((x5_1).toNat * 6)).block, (ad122.add ((x5_1).toNat * 6)).off + 5, none⟩ = some (.int .i64 ((rd_T52 l0 x5_1).f5))) (ds := []) (bl 12 0) (by kernel_rfl) rfl rfl ⟨(blk_cell BK121.out 0).trans rfl, (blk_cell BK121.out 1).trans rfl, (blk_cell BK121.out 2).trans rfl, (blk_cell BK121.out 3).trans rfl, (blk_cell BK121.out 4).trans rfl, (blk_cell BK121.out 5).trans rfl, (hc HB hw122_0), (hc HB hw122_1), (hc HB hw122_2), (hc HB hw122_3), (hc HB hw122_4), (hc HB hw122_5)⟩ (fun hHeld => ?_); refine with_tabW spec_l5Slot.tab2 spec_l5Slot.bits2 (fun HT_ HW_ => ?_)
          generalize wr.drew = w17 at BK121 HB hx122_0 hx122_1 hx122_2 hx122_3 hx122_4 hx122_5 hHeld ⊢
          refine pu 0 6 (bl 12 1) ?_
          refine pu 1 7 (bl 12 3) ?_
          refine pu 2 8 (bl 12 7) ?_
          refine pu 3 9 (bl 12 15) ?_
          refine pu 4 10 (bl 12 31) ?_
          refine pu 5 11 (bl 12 63) ?_
          refine pu 6 12 (bl 12 127) ?_
          refine pu 7 13 (bl 12 255) ?_
          refine tk 8 14 (bl 12 511) ?_ hHeld
          refine tk 9 15 (bl 12 1023) ?_ hHeld
          refine oe 10 16 (bl 12 2047) (fun K hK => ?_)
          refine gs Try.func43 #[.agg #[.int .i64 ((rd_T52 l0 x5_1).f0), .int .i64 ((rd_T52 l0 x5_1).f1), .int .i64 ((rd_T52 l0 x5_1).f2), .int .i64 ((rd_T52 l0 x5_1).f3), .string ((rd_T52 l0 x5_1).f4), .int .i64 ((rd_T52 l0 x5_1).f5)], .agg #[.int .i64 a1_0, .int .i64 a1_1, .int .i64 a1_2, .int .i64 a1_3, .string a1_4, .int .i64 a1_5]] ?_
          with_reducible refine (spec_l5Before.calls ((rd_T52 l0 x5_1).f0) ((rd_T52 l0 x5_1).f1) ((rd_T52 l0 x5_1).f2) ((rd_T52 l0 x5_1).f3) ((rd_T52 l0 x5_1).f4) ((rd_T52 l0 x5_1).f5) a1_0 a1_1 a1_2 a1_3 a1_4 a1_5 false _ A6.out).mono ?_
          rintro e w18 ⟨rfl, hb⟩
          refine ⟨_, rfl, ?_⟩
          have _ := bb (bk BK121) hb
          have _ := bs hb
          clear BK121 HB
          rename_i BK121 HB
          (try clear hb)
          (try clear hb2)
          (try clear hk)
          (try clear hi)
          refine hK.out _ _ ⟨(blk_cell BK121.out 0).trans rfl, (blk_cell BK121.out 1).trans rfl, (blk_cell BK121.out 2).trans rfl, (blk_cell BK121.out 3).trans rfl, (blk_cell BK121.out 4).trans rfl, (blk_cell BK121.out 5).trans rfl, (hc HB hw122_0), (hc HB hw122_1), (hc HB hw122_2), (hc HB hw122_3), (hc HB hw122_4), (hc HB hw122_5)⟩ (fun hHeld => ?_)
          clear hK K
          refine nm 16 ?_
          refine pu 11 17 (bl 12 4095) ?_
          refine done_ (done_of HT_.out (by kernel_rfl)) ?_
          try go_wp2
          have _ := ra (blk_drew BK121.out)
          have _ := ra (below_drew1 HB.out)
          clear BK121 HB
          rename_i BK121 HB
          have q20 : (x5_1 : Int) ≤ ((l0.length : Int) : Int) := od
          obtain ⟨i020, hi020, _, hsz20, _⟩ := info_parts info52
          have hroom20 : l0.length ≤ c0 := HC0.out
          have hC20 : Kd.C k52 _ (some ad122) l0.length l0 := HR0.out
          have hcut20 := cut_to (P := Try.prog) 50 52 .i64 Try.underlying50 hi020 (some ad122) l0.length c0 x5_1 (od) q20 hroom20
          have hr20 := Kd.C_take (m := (x5_1 : Int).toNat) hC20 (by omega)
          have hy20 : y127.length = (x5_1 : Int).toNat := (by rw [Ny127.out, List.length_take]; omega)
          rw [← Ny127.out] at hr20
          rw [← hy20] at hcut20
          have HR130 := Aside0.mk hr20
          have HC130 := ra (show y127.length ≤ c0 from by omega)
          clear hr20 hC20 hroom20 hi020 hsz20
          have KY20 := Aside0.mk hy20
          clear hy20
          replace q20 := eq_true q20
          have q21 : (x5_1 : Int) ≤ ((l0.length : Int) : Int) := od
          obtain ⟨i021, hi021, _, hsz21, _⟩ := info_parts info52
          have hroom21 : l0.length ≤ c0 := HC0.out
          have hC21 : Kd.C k52 _ (some ad122) l0.length l0 := HR0.out
          have q021 : (0 : Int) ≤ (x5_1 : Int) := od
          have hcut21 := cut_from (P := Try.prog) 50 52 .i64 Try.underlying50 hi021 6 hsz21 (some ad122) l0.length c0 x5_1 q021 q21
          have hr21 := Kd.C_drop (m := (x5_1 : Int).toNat) (c := c0) hC21 (by omega) hroom21
          obtain ⟨A21, hA21⟩ : ∃ A1, A1 = (if c0 = (x5_1 : Int).toNat then (some ad122) else ((some ad122) : Option Addr).map (·.add ((x5_1 : Int).toNat * 6))) := ⟨_, rfl⟩
          obtain ⟨c21, hc21⟩ : ∃ c1, c1 = c0 - (x5_1 : Int).toNat := ⟨_, rfl⟩
          have hy21 : y140.length = l0.length - (x5_1 : Int).toNat := (by rw [Ny140.out, List.length_drop] <;> omega)
          rw [show (l0).drop (x5_1 : Int).toNat = y140 from Ny140.out.symm] at hr21
          replace hr21 : Kd.C k52 _ A21 y140.length y140 := (by rw [hA21]; exact hr21)
          rw [← hy21, ← hA21, ← hc21] at hcut21
          have HR143 := Aside0.mk hr21
          have HC143 := ra (show y140.length ≤ c21 from by rw [hy21, hc21]; exact Nat.sub_le_sub_right hroom21 _)
          clear hr21 hC21 hroom21 hi021 hsz21 hc21
          have KY21 := Aside0.mk hy21
          have KA21 := Aside0.mk hA21
          clear hy21 hA21
          replace q21 := eq_true q21
          refine start_ (n := 13) (S := fun w' => w'.cell? ⟨gb121, 0, none⟩ = some (.int .i64 a1_0) ∧ w'.cell? ⟨gb121, 1, none⟩ = some (.int .i64 a1_1) ∧ w'.cell? ⟨gb121, 2, none⟩ = some (.int .i64 a1_2) ∧ w'.cell? ⟨gb121, 3, none⟩ = some (.int .i64 a1_3) ∧ w'.cell? ⟨gb121, 4, none⟩ = some (.string a1_4) ∧ w'.cell? ⟨gb121, 5, none⟩ = some (.int .i64 a1_5)) (ds := []) (bl 13 0) (by kernel_rfl) rfl rfl ⟨(blk_cell BK121.out 0).trans rfl, (blk_cell BK121.out 1).trans rfl, (blk_cell BK121.out 2).trans rfl, (blk_cell BK121.out 3).trans rfl, (blk_cell BK121.out 4).trans rfl, (blk_cell BK121.out 5).trans rfl⟩ (fun hHeld => ?_); refine with_tabW spec_l5Slot.tab4 spec_l5Slot.bits4 (fun HT_ HW_ => ?_)
          generalize w18.drew = w19 at BK121 HB HR130 HR143 hHeld ⊢
          refine pu 1 21 (bl 13 2) ?_
          refine pu 2 22 (bl 13 6) ?_
          refine pu 3 23 (bl 13 14) ?_
          refine pu 8 28 (bl 13 270) ?_
          refine pu 9 29 (bl 13 782) ?_
          refine pu 10 30 (bl 13 1806) ?_
          refine tk 5 25 (bl 13 1838) ?_ hHeld
          refine join_ (σ := Value × Value × Value) 3 #[true, true, true, true, true, true, true, false, true, true, true, false, false] (fun s_ => [(20, s_.1), (24, s_.2.1), (26, s_.2.2)]) (fun s_ w' => (w'.cell? ⟨gb121, 0, none⟩ = some (.int .i64 a1_0) ∧ w'.cell? ⟨gb121, 1, none⟩ = some (.int .i64 a1_1) ∧ w'.cell? ⟨gb121, 2, none⟩ = some (.int .i64 a1_2) ∧ w'.cell? ⟨gb121, 3, none⟩ = some (.int .i64 a1_3) ∧ w'.cell? ⟨gb121, 4, none⟩ = some (.string a1_4) ∧ w'.cell? ⟨gb121, 5, none⟩ = some (.int .i64 a1_5)) ∧ (Kd.R k52 52 w' w.heap.size (fun k_ => some k_ ≠ (s_.2.2 : Value).ownBlock ∧ k_ ≠ gb121) s_.2.1 y131) ∧ (Kd.R k52 52 w' w.heap.size (fun k_ => some k_ ≠ (s_.2.1 : Value).ownBlock ∧ k_ ≠ gb121) s_.2.2 y134) ∧ (w'.heap[gb121]? = some (.cells #[.int .i64 a1_0, .int .i64 a1_1, .int .i64 a1_2, .int .i64 a1_3, .string a1_4, .int .i64 a1_5] 52 (0, 0))) ∧ (Below w.heap.size w w')) ?_ ?_
          rotate_left
          ·intro hCont
           refine two_ (i := 0) (j := 6) (Ni := some 20) (Nj := some 26) #[true, true, true, true, false, true, false, false, true, true, true, false, false] #[false, true, true, true, false, true, true, false, true, true, true, false, false] rfl rfl rfl rfl (two_of HT_.out (by kernel_rfl)) (by decide) (by decide) (fun K hK => ?_) (fun K hK => ?_)
           ·skip
            refine Kd.R_lit_step k52 _ 52 ?hg (N := 20) ?hd (xs := ([] : List (S52))) (inner := []) (ok := fun _ => True) (okp := fun _ => True) ?hr ?hp (fun _ hk => hk) trivial (Below.refl _ _) (Nat.le_refl _) (by simp) ?_; (case hd => rfl); (case hg => rfl); (case hr => first | (go_simp; done) | (go_simp; rfl)); (case hp => exact (Reps.none _ _))
            intro v125 w22 ho23 hb hg_ hnew_
            clear hg_ hnew_
            (first | rw [← Ny124.out] at ho23 | (simp only [Int.reduceToNat] at ho23; rw [← Ny124.out] at ho23))
            have _ := ra (Kd.R_lower (Kd.R_newB ho23 (g := gb121) (o := .cells #[.int .i64 a1_0, .int .i64 a1_1, .int .i64 a1_2, .int .i64 a1_3, .string a1_4, .int .i64 a1_5] 52 (0, 0)) (bk BK121)) (below_size bq))
            have _ := bb (bk BK121) hb
            have _ := bs hb
            clear BK121 HB
            rename_i HO126 BK121 HB
            clear hb ho23
            refine hK.out _ _ ⟨(blk_cell BK121.out 0).trans rfl, (blk_cell BK121.out 1).trans rfl, (blk_cell BK121.out 2).trans rfl, (blk_cell BK121.out 3).trans rfl, (blk_cell BK121.out 4).trans rfl, (blk_cell BK121.out 5).trans rfl⟩ (fun hHeld => ?_)
            clear hK K
            refine nm 20 ?_
            refine two_ (i := 4) (j := 6) (Ni := some 24) (Nj := some 26) #[true, true, true, true, true, true, false, false, true, true, true, false, false] #[true, true, true, true, false, true, true, false, true, true, true, false, false] rfl rfl rfl rfl (two_of HT_.out (by kernel_rfl)) (by decide) (by decide) (fun K hK => ?_) (fun K hK => ?_)
            ·skip
             refine Kd.R_append_rows_step k52 (w0 := w) w.heap.size (by rfl) (.tmp 20) (.tmp 23) 50 52 (.agg #[(.int .i64 0), (.int .i64 0), (.int .i64 0), (.int .i64 0), (.string ⟨#[]⟩), (.int .i64 0)]) 56 rfl Try.underlying50 info52 rfl (by decide) (by omega) v125 y124 y127 _ _ _ (fun k_ => k_ ≠ gb121) (fun _ => False) rfl rfl ?aO ?aR (fun _ _ h => h) (fun _ h => h.elim) ?aF ?aB ?aS ?aL ?_
             (case aR => exact sc HR130)
             (case aB => exact bq)
             (case aF => exact (fun k_ hk => Kd.freshB (g := gb121) (o := .cells #[.int .i64 a1_0, .int .i64 a1_1, .int .i64 a1_2, .int .i64 a1_3, .string a1_4, .int .i64 a1_5] 52 (0, 0)) (bk BK121) k_ hk))
             (case aO => exact (by (with_reducible repeat (first | apply Kd.R_alloc | apply Kd.R_drewN | apply Kd.R_drew)); exact Kd.R_mono HO126.out (fun _ hk => hk.2)))
             (case aS => exact (below_size bq))
             (case aL => have := LMc12.out; omega)
             intro v132 w24 ho hb hg hat
             rw [← Ny131.out] at ho
             have _ := ra (blk_grown (g := gb121) (o := .cells #[.int .i64 a1_0, .int .i64 a1_1, .int .i64 a1_2, .int .i64 a1_3, .string a1_4, .int .i64 a1_5] 52 (0, 0)) (bk BK121) hg (Kd.R_away HO126.out (fun _ hk => hk.2)))
             have _ := ra (hb)
             have _ := ra (ho)
             clear BK121 HB HO126
             rename_i BK121 HB HO133
             clear ho hb hg hat
             refine hK.out _ _ ⟨(blk_cell BK121.out 0).trans rfl, (blk_cell BK121.out 1).trans rfl, (blk_cell BK121.out 2).trans rfl, (blk_cell BK121.out 3).trans rfl, (blk_cell BK121.out 4).trans rfl, (blk_cell BK121.out 5).trans rfl⟩ (fun hHeld => ?_)
             clear hK K
             refine nm 24 ?_
             refine oe 6 26 (bl 13 1919) (fun K hK => ?_)
             refine Kd.R_lit_step k52 _ 52 ?hg (N := 26) ?hd (xs := ([(⟨a1_0, a1_1, a1_2, a1_3, a1_4, a1_5⟩ : S52)] : List (S52))) (inner := [.int .i64 a1_0, .int .i64 a1_1, .int .i64 a1_2, .int .i64 a1_3, .string a1_4, .int .i64 a1_5]) (ok := fun _ => True) (okp := fun _ => True) ?hr ?hp (fun _ hk => hk) trivial (Below.refl _ _) (Nat.le_refl _) (by simp) ?_; (case hd => rfl); (case hg => rfl); (case hr => first | (go_simp; done) | (go_simp; rfl)); (case hp => exact (Reps.c6 (show Kd.M k52 _ _ _ (⟨a1_0, a1_1, a1_2, a1_3, a1_4, a1_5⟩ : S52) [.int .i64 a1_0, .int .i64 a1_1, .int .i64 a1_2, .int .i64 a1_3, .string a1_4, .int .i64 a1_5] from (k52_mkM _ _ _ (⟨a1_0, a1_1, a1_2, a1_3, a1_4, a1_5⟩ : S52) )) (Reps.none _ _)))
             intro v135 w25 ho26 hb hg_ hnew_
             clear hg_ hnew_
             (first | rw [← Ny134.out] at ho26 | (simp only [Int.reduceToNat] at ho26; rw [← Ny134.out] at ho26))
             have _ := ra (Kd.R_elder' (rq HO133) (Kd.R_base ho26) hb)
             have _ := ra (Kd.R_lower (Kd.R_newB (Kd.R_new' ho26 (Kd.R_lt (rq HO133))) (g := gb121) (o := .cells #[.int .i64 a1_0, .int .i64 a1_1, .int .i64 a1_2, .int .i64 a1_3, .string a1_4, .int .i64 a1_5] 52 (0, 0)) (bk BK121)) (below_size bq))
             have _ := bb (bk BK121) hb
             have _ := bs hb
             clear HO133 BK121 HB
             rename_i HO133 HO136 BK121 HB
             clear hb ho26
             refine hK.out _ _ ⟨(blk_cell BK121.out 0).trans rfl, (blk_cell BK121.out 1).trans rfl, (blk_cell BK121.out 2).trans rfl, (blk_cell BK121.out 3).trans rfl, (blk_cell BK121.out 4).trans rfl, (blk_cell BK121.out 5).trans rfl⟩ (fun hHeld => ?_)
             clear hK K
             refine nm 26 ?_
             exact norm_ (by simp only [putAll, Act.put, List.setIfInBounds_toArray, List.set_cons_zero, List.set_cons_succ]) (hCont (v125, v132, v135) _ ⟨hHeld, (by (with_reducible repeat (first | apply Kd.R_alloc | apply Kd.R_drewN | apply Kd.R_drew)); exact Kd.R_mono HO133.out (fun _ hk => ⟨hk.2, hk.1⟩)), (by (with_reducible repeat (first | apply Kd.R_alloc | apply Kd.R_drewN | apply Kd.R_drew)); exact Kd.R_mono HO136.out (fun _ hk => ⟨hk.1.2, hk.2⟩)), (bk BK121), bq⟩)
            ·skip
             refine Kd.R_lit_step k52 _ 52 ?hg (N := 26) ?hd (xs := ([(⟨a1_0, a1_1, a1_2, a1_3, a1_4, a1_5⟩ : S52)] : List (S52))) (inner := [.int .i64 a1_0, .int .i64 a1_1, .int .i64 a1_2, .int .i64 a1_3, .string a1_4, .int .i64 a1_5]) (ok := fun _ => True) (okp := fun _ => True) ?hr ?hp (fun _ hk => hk) trivial (Below.refl _ _) (Nat.le_refl _) (by simp) ?_; (case hd => rfl); (case hg => rfl); (case hr => first | (go_simp; done) | (go_simp; rfl)); (case hp => exact (Reps.c6 (show Kd.M k52 _ _ _ (⟨a1_0, a1_1, a1_2, a1_3, a1_4, a1_5⟩ : S52) [.int .i64 a1_0, .int .i64 a1_1, .int .i64 a1_2, .int .i64 a1_3, .string a1_4, .int .i64 a1_5] from (k52_mkM _ _ _ (⟨a1_0, a1_1, a1_2, a1_3, a1_4, a1_5⟩ : S52) )) (Reps.none _ _)))
             intro v135 w24 ho25 hb hg_ hnew_
             clear hg_ hnew_
             (first | rw [← Ny134.out] at ho25 | (simp only [Int.reduceToNat] at ho25; rw [← Ny134.out] at ho25))
             have _ := ra (Kd.R_elder' (rq HO126) (Kd.R_base ho25) hb)
             have _ := ra (Kd.R_lower (Kd.R_newB (Kd.R_new' ho25 (Kd.R_lt (rq HO126))) (g := gb121) (o := .cells #[.int .i64 a1_0, .int .i64 a1_1, .int .i64 a1_2, .int .i64 a1_3, .string a1_4, .int .i64 a1_5] 52 (0, 0)) (bk BK121)) (below_size bq))
             have _ := bb (bk BK121) hb
             have _ := bs hb
             clear HO126 BK121 HB
             rename_i HO126 HO136 BK121 HB
             clear hb ho25
             refine hK.out _ _ ⟨(blk_cell BK121.out 0).trans rfl, (blk_cell BK121.out 1).trans rfl, (blk_cell BK121.out 2).trans rfl, (blk_cell BK121.out 3).trans rfl, (blk_cell BK121.out 4).trans rfl, (blk_cell BK121.out 5).trans rfl⟩ (fun hHeld => ?_)
             clear hK K
             refine nm 26 ?_
             refine oe 4 24 (bl 13 1919) (fun K hK => ?_)
             refine Kd.R_append_rows_step k52 (w0 := w) w.heap.size (by rfl) (.tmp 20) (.tmp 23) 50 52 (.agg #[(.int .i64 0), (.int .i64 0), (.int .i64 0), (.int .i64 0), (.string ⟨#[]⟩), (.int .i64 0)]) 56 rfl Try.underlying50 info52 rfl (by decide) (by omega) v125 y124 y127 _ _ _ (fun k_ => some k_ ≠ (v135 : Value).ownBlock ∧ k_ ≠ gb121) (fun _ => False) rfl rfl ?aO ?aR (fun _ _ h => h) (fun _ h => h.elim) ?aF ?aB ?aS ?aL ?_
             (case aR => exact sc HR130)
             (case aB => exact bq)
             (case aF => exact (fun k_ hk => ⟨Kd.fresh' (Kd.R_lt (rq HO136)) k_ hk, Kd.freshB (g := gb121) (o := .cells #[.int .i64 a1_0, .int .i64 a1_1, .int .i64 a1_2, .int .i64 a1_3, .string a1_4, .int .i64 a1_5] 52 (0, 0)) (bk BK121) k_ hk⟩))
             (case aO => exact (by (with_reducible repeat (first | apply Kd.R_alloc | apply Kd.R_drewN | apply Kd.R_drew)); exact Kd.R_mono HO126.out (fun _ hk => ⟨hk.2, hk.1.2⟩)))
             (case aS => exact (below_size bq))
             (case aL => have := LMc12.out; omega)
             intro v132 w26 ho hb hg hat
             rw [← Ny131.out] at ho
             have _ := ra (blk_grown (g := gb121) (o := .cells #[.int .i64 a1_0, .int .i64 a1_1, .int .i64 a1_2, .int .i64 a1_3, .string a1_4, .int .i64 a1_5] 52 (0, 0)) (bk BK121) hg (Kd.R_away HO126.out (fun _ hk => hk.1.2)))
             have _ := ra (Kd.R_after (ok := (fun k_ => k_ ≠ gb121)) (by (with_reducible repeat (first | apply Kd.R_alloc | apply Kd.R_drewN | apply Kd.R_drew)); exact Kd.R_mono HO136.out (fun _ hk => ⟨hk.2, hk.1.2⟩)) hg hat)
             have _ := ra (hb)
             have _ := ra (ho)
             clear BK121 HO136 HB HO126
             rename_i BK121 HO136 HB HO133
             clear ho hb hg hat
             refine hK.out _ _ ⟨(blk_cell BK121.out 0).trans rfl, (blk_cell BK121.out 1).trans rfl, (blk_cell BK121.out 2).trans rfl, (blk_cell BK121.out 3).trans rfl, (blk_cell BK121.out 4).trans rfl, (blk_cell BK121.out 5).trans rfl⟩ (fun hHeld => ?_)
             clear hK K
             refine nm 24 ?_
             exact norm_ (by simp only [putAll, Act.put, List.setIfInBounds_toArray, List.set_cons_zero, List.set_cons_succ]) (hCont (v125, v132, v135) _ ⟨hHeld, (rq HO133), (by (with_reducible repeat (first | apply Kd.R_alloc | apply Kd.R_drewN | apply Kd.R_drew)); exact Kd.R_mono HO136.out (fun _ hk => ⟨hk.2, hk.1⟩)), (bk BK121), bq⟩)
           ·skip
            refine Kd.R_lit_step k52 _ 52 ?hg (N := 26) ?hd (xs := ([(⟨a1_0, a1_1, a1_2, a1_3, a1_4, a1_5⟩ : S52)] : List (S52))) (inner := [.int .i64 a1_0, .int .i64 a1_1, .int .i64 a1_2, .int .i64 a1_3, .string a1_4, .int .i64 a1_5]) (ok := fun _ => True) (okp := fun _ => True) ?hr ?hp (fun _ hk => hk) trivial (Below.refl _ _) (Nat.le_refl _) (by simp) ?_; (case hd => rfl); (case hg => rfl); (case hr => first | (go_simp; done) | (go_simp; rfl)); (case hp => exact (Reps.c6 (show Kd.M k52 _ _ _ (⟨a1_0, a1_1, a1_2, a1_3, a1_4, a1_5⟩ : S52) [.int .i64 a1_0, .int .i64 a1_1, .int .i64 a1_2, .int .i64 a1_3, .string a1_4, .int .i64 a1_5] from (k52_mkM _ _ _ (⟨a1_0, a1_1, a1_2, a1_3, a1_4, a1_5⟩ : S52) )) (Reps.none _ _)))
            intro v135 w22 ho23 hb hg_ hnew_
            clear hg_ hnew_
            (first | rw [← Ny134.out] at ho23 | (simp only [Int.reduceToNat] at ho23; rw [← Ny134.out] at ho23))
            have _ := ra (Kd.R_lower (Kd.R_newB ho23 (g := gb121) (o := .cells #[.int .i64 a1_0, .int .i64 a1_1, .int .i64 a1_2, .int .i64 a1_3, .string a1_4, .int .i64 a1_5] 52 (0, 0)) (bk BK121)) (below_size bq))
            have _ := bb (bk BK121) hb
            have _ := bs hb
            clear BK121 HB
            rename_i HO136 BK121 HB
            clear hb ho23
            refine hK.out _ _ ⟨(blk_cell BK121.out 0).trans rfl, (blk_cell BK121.out 1).trans rfl, (blk_cell BK121.out 2).trans rfl, (blk_cell BK121.out 3).trans rfl, (blk_cell BK121.out 4).trans rfl, (blk_cell BK121.out 5).trans rfl⟩ (fun hHeld => ?_)
            clear hK K
            refine nm 26 ?_
            refine oe 0 20 (bl 13 1903) (fun K hK => ?_)
            refine Kd.R_lit_step k52 _ 52 ?hg (N := 20) ?hd (xs := ([] : List (S52))) (inner := []) (ok := fun _ => True) (okp := fun _ => True) ?hr ?hp (fun _ hk => hk) trivial (Below.refl _ _) (Nat.le_refl _) (by simp) ?_; (case hd => rfl); (case hg => rfl); (case hr => first | (go_simp; done) | (go_simp; rfl)); (case hp => exact (Reps.none _ _))
            intro v125 w24 ho25 hb hg_ hnew_
            clear hg_ hnew_
            (first | rw [← Ny124.out] at ho25 | (simp only [Int.reduceToNat] at ho25; rw [← Ny124.out] at ho25))
            have _ := ra (Kd.R_elder' (rq HO136) (Kd.R_base ho25) hb)
            have _ := ra (Kd.R_lower (Kd.R_newB (Kd.R_new' ho25 (Kd.R_lt (rq HO136))) (g := gb121) (o := .cells #[.int .i64 a1_0, .int .i64 a1_1, .int .i64 a1_2, .int .i64 a1_3, .string a1_4, .int .i64 a1_5] 52 (0, 0)) (bk BK121)) (below_size bq))
            have _ := bb (bk BK121) hb
            have _ := bs hb
            clear HO136 BK121 HB
            rename_i HO136 HO126 BK121 HB
            clear hb ho25
            refine hK.out _ _ ⟨(blk_cell BK121.out 0).trans rfl, (blk_cell BK121.out 1).trans rfl, (blk_cell BK121.out 2).trans rfl, (blk_cell BK121.out 3).trans rfl, (blk_cell BK121.out 4).trans rfl, (blk_cell BK121.out 5).trans rfl⟩ (fun hHeld => ?_)
            clear hK K
            refine nm 20 ?_
            refine oe 4 24 (bl 13 1919) (fun K hK => ?_)
            refine Kd.R_append_rows_step k52 (w0 := w) w.heap.size (by rfl) (.tmp 20) (.tmp 23) 50 52 (.agg #[(.int .i64 0), (.int .i64 0), (.int .i64 0), (.int .i64 0), (.string ⟨#[]⟩), (.int .i64 0)]) 56 rfl Try.underlying50 info52 rfl (by decide) (by omega) v125 y124 y127 _ _ _ (fun k_ => some k_ ≠ (v135 : Value).ownBlock ∧ k_ ≠ gb121) (fun _ => False) rfl rfl ?aO ?aR (fun _ _ h => h) (fun _ h => h.elim) ?aF ?aB ?aS ?aL ?_
            (case aR => exact sc HR130)
            (case aB => exact bq)
            (case aF => exact (fun k_ hk => ⟨Kd.fresh' (Kd.R_lt (rq HO136)) k_ hk, Kd.freshB (g := gb121) (o := .cells #[.int .i64 a1_0, .int .i64 a1_1, .int .i64 a1_2, .int .i64 a1_3, .string a1_4, .int .i64 a1_5] 52 (0, 0)) (bk BK121) k_ hk⟩))
            (case aO => exact (by (with_reducible repeat (first | apply Kd.R_alloc | apply Kd.R_drewN | apply Kd.R_drew)); exact Kd.R_mono HO126.out (fun _ hk => ⟨hk.1.2, hk.2⟩)))
            (case aS => exact (below_size bq))
            (case aL => have := LMc12.out; omega)
            intro v132 w26 ho hb hg hat
            rw [← Ny131.out] at ho
            have _ := ra (blk_grown (g := gb121) (o := .cells #[.int .i64 a1_0, .int .i64 a1_1, .int .i64 a1_2, .int .i64 a1_3, .string a1_4, .int .i64 a1_5] 52 (0, 0)) (bk BK121) hg (Kd.R_away HO126.out (fun _ hk => hk.2)))
            have _ := ra (Kd.R_after (ok := (fun k_ => k_ ≠ gb121)) (by (with_reducible repeat (first | apply Kd.R_alloc | apply Kd.R_drewN | apply Kd.R_drew)); exact Kd.R_mono HO136.out (fun _ hk => ⟨hk.1.2, hk.2⟩)) hg hat)
            have _ := ra (hb)
            have _ := ra (ho)
            clear BK121 HO136 HB HO126
            rename_i BK121 HO136 HB HO133
            clear ho hb hg hat
            refine hK.out _ _ ⟨(blk_cell BK121.out 0).trans rfl, (blk_cell BK121.out 1).trans rfl, (blk_cell BK121.out 2).trans rfl, (blk_cell BK121.out 3).trans rfl, (blk_cell BK121.out 4).trans rfl, (blk_cell BK121.out 5).trans rfl⟩ (fun hHeld => ?_)
            clear hK K
            refine nm 24 ?_
            exact norm_ (by simp only [putAll, Act.put, List.setIfInBounds_toArray, List.set_cons_zero, List.set_cons_succ]) (hCont (v125, v132, v135) _ ⟨hHeld, (rq HO133), (by (with_reducible repeat (first | apply Kd.R_alloc | apply Kd.R_drewN | apply Kd.R_drew)); exact Kd.R_mono HO136.out (fun _ hk => ⟨hk.2, hk.1⟩)), (bk BK121), bq⟩)
          rintro ⟨v125, v132, v135⟩ w27 ⟨hS_, h0_, h1_, h2_, h3_⟩
          have _ : Aside0 (Kd.R k52 52 w27 w.heap.size (fun k_ => some k_ ≠ (v135 : Value).ownBlock ∧ k_ ≠ gb121) v132 y131) := ⟨h0_⟩
          have _ : Aside0 (Kd.R k52 52 w27 w.heap.size (fun k_ => some k_ ≠ (v132 : Value).ownBlock ∧ k_ ≠ gb121) v135 y134) := ⟨h1_⟩
          have _ : Aside0 (w27.heap[gb121]? = some (.cells #[.int .i64 a1_0, .int .i64 a1_1, .int .i64 a1_2, .int .i64 a1_3, .string a1_4, .int .i64 a1_5] 52 (0, 0))) := ⟨h2_⟩
          have _ : Aside0 (Below w.heap.size w w27) := ⟨h3_⟩
          clear BK121 HB
          clear h0_ h1_ h2_ h3_
          rename_i HO133 HO136 BK121 HB
          have hHeld : w27.cell? ⟨gb121, 0, none⟩ = some (.int .i64 a1_0) ∧ w27.cell? ⟨gb121, 1, none⟩ = some (.int .i64 a1_1) ∧ w27.cell? ⟨gb121, 2, none⟩ = some (.int .i64 a1_2) ∧ w27.cell? ⟨gb121, 3, none⟩ = some (.int .i64 a1_3) ∧ w27.cell? ⟨gb121, 4, none⟩ = some (.string a1_4) ∧ w27.cell? ⟨gb121, 5, none⟩ = some (.int .i64 a1_5) := hS_
          obtain ⟨Ao29, co29, eo29⟩ := Kd.R_slice HO136.out
          (first | subst eo29 | (injection eo29 with f1_ f2_ f3_; have f4_ := f1_.symm; have f5_ := f3_.symm; clear f1_ f2_ f3_; subst f4_; subst f5_))
          refine norm_ (a' := ?_) ?_ ?_
          rotate_left
          ·simp only [putAll, Act.put, List.setIfInBounds_toArray, List.set_cons_zero, List.set_cons_succ]
           rfl
          refine oe 7 27 (bl 13 2047) (fun K hK => ?_)
          refine Kd.R_append_rows_step k52 (w0 := w) w.heap.size (by rfl) (.tmp 24) (.tmp 26) 50 52 (.agg #[(.int .i64 0), (.int .i64 0), (.int .i64 0), (.int .i64 0), (.string ⟨#[]⟩), (.int .i64 0)]) 56 rfl Try.underlying50 info52 rfl (by decide) (by omega) v132 y131 y134 _ _ _ (fun k_ => some k_ ≠ (.slice Ao29 y134.length co29 : Value).ownBlock ∧ k_ ≠ gb121) (fun _ => False) rfl rfl ?aO ?aR (fun _ _ h => h) (fun _ h => h.elim) ?aF ?aB ?aS ?aL ?_
          (case aR => exact sr HO136)
          (case aB => exact bq)
          (case aF => exact (fun k_ hk => ⟨Kd.fresh' (Kd.R_lt (rq HO136)) k_ hk, Kd.freshB (g := gb121) (o := .cells #[.int .i64 a1_0, .int .i64 a1_1, .int .i64 a1_2, .int .i64 a1_3, .string a1_4, .int .i64 a1_5] 52 (0, 0)) (bk BK121) k_ hk⟩))
          (case aO => exact (rq HO133))
          (case aS => exact (below_size bq))
          (case aL => have := LMc13.out; omega)
          intro v138 w28 ho hb hg hat
          rw [← Ny137.out] at ho
          have _ := ra (blk_grown (g := gb121) (o := .cells #[.int .i64 a1_0, .int .i64 a1_1, .int .i64 a1_2, .int .i64 a1_3, .string a1_4, .int .i64 a1_5] 52 (0, 0)) (bk BK121) hg (Kd.R_away HO133.out (fun _ hk => hk.2)))
          have _ := ra (Kd.R_after (ok := (fun k_ => k_ ≠ gb121)) (by (with_reducible repeat (first | apply Kd.R_alloc | apply Kd.R_drewN | apply Kd.R_drew)); exact Kd.R_mono HO136.out (fun _ hk => ⟨hk.2, hk.1⟩)) hg hat)
          have _ := ra (hb)
          have _ := ra (ho)
          clear BK121 HO136 HB HO133
          rename_i BK121 HO136 HB HO139
          clear ho hb hg hat
          refine hK.out _ _ ⟨(blk_cell BK121.out 0).trans rfl, (blk_cell BK121.out 1).trans rfl, (blk_cell BK121.out 2).trans rfl, (blk_cell BK121.out 3).trans rfl, (blk_cell BK121.out 4).trans rfl, (blk_cell BK121.out 5).trans rfl⟩ (fun hHeld => ?_)
          clear hK K
          refine nm 27 ?_
          refine oe 11 31 (bl 13 4095) (fun K hK => ?_)
          refine Kd.R_append_rows_step k52 (w0 := w) w.heap.size (by rfl) (.tmp 27) (.tmp 30) 50 52 (.agg #[(.int .i64 0), (.int .i64 0), (.int .i64 0), (.int .i64 0), (.string ⟨#[]⟩), (.int .i64 0)]) 56 rfl Try.underlying50 info52 rfl (by decide) (by omega) v138 y137 y140 _ _ _ (fun k_ => some k_ ≠ (.slice Ao29 y134.length co29 : Value).ownBlock ∧ k_ ≠ gb121) (fun _ => False) rfl rfl ?aO ?aR (fun _ _ h => h) (fun _ h => h.elim) ?aF ?aB ?aS ?aL ?_
          (case aR => exact sc HR143)
          (case aB => exact bq)
          (case aF => exact (fun k_ hk => ⟨Kd.fresh' (Kd.R_lt (rq HO136)) k_ hk, Kd.freshB (g := gb121) (o := .cells #[.int .i64 a1_0, .int .i64 a1_1, .int .i64 a1_2, .int .i64 a1_3, .string a1_4, .int .i64 a1_5] 52 (0, 0)) (bk BK121) k_ hk⟩))
          (case aO => exact (rq HO139))
          (case aS => exact (below_size bq))
          (case aL => have := LMc16.out; omega)
          intro v145 w30 ho hb hg hat
          rw [← Ny144.out] at ho
          have _ := ra (blk_grown (g := gb121) (o := .cells #[.int .i64 a1_0, .int .i64 a1_1, .int .i64 a1_2, .int .i64 a1_3, .string a1_4, .int .i64 a1_5] 52 (0, 0)) (bk BK121) hg (Kd.R_away HO139.out (fun _ hk => hk.2)))
          have _ := ra (Kd.R_after (ok := (fun k_ => k_ ≠ gb121)) (rq HO136) hg hat)
          have _ := ra (hb)
          have _ := ra (ho)
          clear BK121 HO136 HB HO139
          rename_i BK121 HO136 HB HO146
          clear ho hb hg hat
          refine hK.out _ _ ⟨(blk_cell BK121.out 0).trans rfl, (blk_cell BK121.out 1).trans rfl, (blk_cell BK121.out 2).trans rfl, (blk_cell BK121.out 3).trans rfl, (blk_cell BK121.out 4).trans rfl, (blk_cell BK121.out 5).trans rfl⟩ (fun hHeld => ?_)
          clear hK K
          refine nm 31 ?_
          refine pu 12 4 (bl 13 8191) ?_
          refine done_ (done_of HT_.out (by kernel_rfl)) ?_
          try go_wp2
          go_ret
          exact ⟨_, re, by (with_reducible repeat (first | apply Kd.R_alloc | apply Kd.R_drewN | apply Kd.R_drew)); exact Kd.R_mono HO146.out (fun _ hk => trivial), bq⟩
         ·rw [if_neg c16] at H
          exact absurd H (by simp)
        ·rw [if_neg c13] at H
         exact absurd H (by simp)
       ·rw [if_neg c12] at H
        exact absurd H (by simp)
      ·rw [if_neg c11] at H
       exact absurd H (by simp)
    ·rw [if_neg c5] at H
     exact absurd H (by simp)
   ·rw [if_neg c4] at H
    have c4b0 : decide (x5_1 < (l0.length : Int)) = false := decide_eq_false c4
    clear c4
    obtain ⟨y147, hy_⟩ : ∃ y_ : List (S52), y_ = (([] : List (S52))) := ⟨_, rfl⟩
    replace H : (if 0 ≤ x5_1 then (if x5_1 ≤ (l0.length : Int) then ((some (l0.take (x5_1 : Int).toNat : List (S52))).bind fun y150 => (if y147.length + y150.length < 2513169434916 then ((some (y147 ++ y150 : List (S52))).bind fun y154 => ((some (([(⟨a1_0, a1_1, a1_2, a1_3, a1_4, a1_5⟩ : S52)] : List (S52)) : List (S52))).bind fun y157 => (if y154.length + y157.length < 2513169434916 then ((some (y154 ++ y157 : List (S52))).bind fun y160 => ((some (l0.drop (x5_1 : Int).toNat : List (S52))).bind fun y163 => (if y160.length + y163.length < 2513169434916 then (some (y160 ++ y163)) else (none)))) else (none)))) else (none))) else (none)) else (none)) = some r := yh
    have Ny147 := ra hy_
    clear hy_
    by_cases c31 : 0 ≤ x5_1
    ·rw [if_pos c31] at H
     have c31b0 := eq_true c31
     have c31b1 : decide (0 ≤ x5_1) = true := decide_eq_true c31
     clear c31
     by_cases c32 : x5_1 ≤ (l0.length : Int)
     ·rw [if_pos c32] at H
      have c32b0 := eq_true c32
      have c32b1 : decide (x5_1 ≤ (l0.length : Int)) = true := decide_eq_true c32
      clear c32
      obtain ⟨y150, hy_⟩ : ∃ y_ : List (S52), y_ = (l0.take (x5_1 : Int).toNat) := ⟨_, rfl⟩
      replace H : (if y147.length + y150.length < 2513169434916 then ((some (y147 ++ y150 : List (S52))).bind fun y154 => ((some (([(⟨a1_0, a1_1, a1_2, a1_3, a1_4, a1_5⟩ : S52)] : List (S52)) : List (S52))).bind fun y157 => (if y154.length + y157.length < 2513169434916 then ((some (y154 ++ y157 : List (S52))).bind fun y160 => ((some (l0.drop (x5_1 : Int).toNat : List (S52))).bind fun y163 => (if y160.length + y163.length < 2513169434916 then (some (y160 ++ y163)) else (none)))) else (none)))) else (none)) = some r := yh
      have Ny150 := ra hy_
      clear hy_
      by_cases c33 : y147.length + y150.length < 2513169434916
      ·rw [if_pos c33] at H
       have LMc33 := Aside0.mk c33
       clear c33
       obtain ⟨y154, hy_⟩ : ∃ y_ : List (S52), y_ = (y147 ++ y150) := ⟨_, rfl⟩
       replace H : ((some (([(⟨a1_0, a1_1, a1_2, a1_3, a1_4, a1_5⟩ : S52)] : List (S52)) : List (S52))).bind fun y157 => (if y154.length + y157.length < 2513169434916 then ((some (y154 ++ y157 : List (S52))).bind fun y160 => ((some (l0.drop (x5_1 : Int).toNat : List (S52))).bind fun y163 => (if y160.length + y163.length < 2513169434916 then (some (y160 ++ y163)) else (none)))) else (none))) = some r := yh
       have Ny154 := ra hy_
       clear hy_
       obtain ⟨y157, hy_⟩ : ∃ y_ : List (S52), y_ = (([(⟨a1_0, a1_1, a1_2, a1_3, a1_4, a1_5⟩ : S52)] : List (S52))) := ⟨_, rfl⟩
       replace H : (if y154.length + y157.length < 2513169434916 then ((some (y154 ++ y157 : List (S52))).bind fun y160 => ((some (l0.drop (x5_1 : Int).toNat : List (S52))).bind fun y163 => (if y160.length + y163.length < 2513169434916 then (some (y160 ++ y163)) else (none)))) else (none)) = some r := yh
       have Ny157 := ra hy_
       clear hy_
       by_cases c34 : y154.length + y157.length < 2513169434916
       ·rw [if_pos c34] at H
        have LMc34 := Aside0.mk c34
        clear c34
        obtain ⟨y160, hy_⟩ : ∃ y_ : List (S52), y_ = (y154 ++ y157) := ⟨_, rfl⟩
        replace H : ((some (l0.drop (x5_1 : Int).toNat : List (S52))).bind fun y163 => (if y160.length + y163.length < 2513169434916 then (some (y160 ++ y163)) else (none))) = some r := yh
        have Ny160 := ra hy_
        clear hy_
        have c35b0 := eq_true (od : 0 ≤ x5_1)
        have c36b0 := eq_true (od : x5_1 ≤ (l0.length : Int))
        obtain ⟨y163, hy_⟩ : ∃ y_ : List (S52), y_ = (l0.drop (x5_1 : Int).toNat) := ⟨_, rfl⟩
        replace H : (if y160.length + y163.length < 2513169434916 then (some (y160 ++ y163)) else (none)) = some r := yh
        have Ny163 := ra hy_
        clear hy_
        by_cases c37 : y160.length + y163.length < 2513169434916
        ·rw [if_pos c37] at H
         have LMc37 := Aside0.mk c37
         clear c37
         obtain ⟨y167, hy_⟩ : ∃ y_ : List (S52), y_ = (y160 ++ y163) := ⟨_, rfl⟩
         replace H : (some y167) = some r := yh
         have Ny167 := ra hy_
         clear hy_
         obtain rfl := Option.some.inj H
         try go_wp2
         have _ := ra (blk_drew BK121.out)
         have _ := ra (below_drew1 HB.out)
         clear BK121 HB
         rename_i BK121 HB
         refine start_ (n := 12) (S := fun w' => True) (ds := []) (bl 12 0) (by kernel_rfl) rfl rfl trivial (fun hHeld => ?_); refine with_tabW spec_l5Slot.tab2 spec_l5Slot.bits2 (fun HT_ HW_ => ?_)
         generalize wr.drew = w38 at BK121 HB hHeld ⊢
         refine pu 0 6 (bl 12 1) ?_
         refine pu 1 7 (bl 12 3) ?_
         refine pu 2 8 (bl 12 7) ?_
         refine pu 3 9 (bl 12 15) ?_
         refine pu 4 10 (bl 12 31) ?_
         refine pv 5 11 (bl 12 63) ?_
         refine pv 6 12 (bl 12 127) ?_
         refine pv 7 13 (bl 12 255) ?_
         refine pv 8 14 (bl 12 511) ?_
         refine pv 9 15 (bl 12 1023) ?_
         refine pv 10 16 (bl 12 2047) ?_
         refine pu 11 17 (bl 12 4095) ?_
         refine done_ (done_of HT_.out (by kernel_rfl)) ?_
         try go_wp2
         have _ := ra (blk_drew BK121.out)
         have _ := ra (below_drew1 HB.out)
         clear BK121 HB
         rename_i BK121 HB
         have q40 : (x5_1 : Int) ≤ ((l0.length : Int) : Int) := od
         obtain ⟨i040, hi040, _, hsz40, _⟩ := info_parts info52
         have hroom40 : l0.length ≤ c0 := HC0.out
         have hC40 : Kd.C k52 _ A0 l0.length l0 := HR0.out
         have hcut40 := cut_to (P := Try.prog) 50 52 .i64 Try.underlying50 hi040 A0 l0.length c0 x5_1 (od) q40 hroom40
         have hr40 := Kd.C_take (m := (x5_1 : Int).toNat) hC40 (by omega)
         have hy40 : y150.length = (x5_1 : Int).toNat := (by rw [Ny150.out, List.length_take]; omega)
         rw [← Ny150.out] at hr40
         rw [← hy40] at hcut40
         have HR153 := Aside0.mk hr40
         have HC153 := ra (show y150.length ≤ c0 from by omega)
         clear hr40 hC40 hroom40 hi040 hsz40
         have KY40 := Aside0.mk hy40
         clear hy40
         replace q40 := eq_true q40
         have q41 : (x5_1 : Int) ≤ ((l0.length : Int) : Int) := od
         obtain ⟨i041, hi041, _, hsz41, _⟩ := info_parts info52
         have hroom41 : l0.length ≤ c0 := HC0.out
         have hC41 : Kd.C k52 _ A0 l0.length l0 := HR0.out
         have q041 : (0 : Int) ≤ (x5_1 : Int) := od
         have hcut41 := cut_from (P := Try.prog) 50 52 .i64 Try.underlying50 hi041 6 hsz41 A0 l0.length c0 x5_1 q041 q41
         have hr41 := Kd.C_drop (m := (x5_1 : Int).toNat) (c := c0) hC41 (by omega) hroom41
         obtain ⟨A41, hA41⟩ : ∃ A1, A1 = (if c0 = (x5_1 : Int).toNat then A0 else (A0 : Option Addr).map (·.add ((x5_1 : Int).toNat * 6))) := ⟨_, rfl⟩
         obtain ⟨c41, hc41⟩ : ∃ c1, c1 = c0 - (x5_1 : Int).toNat := ⟨_, rfl⟩
         have hy41 : y163.length = l0.length - (x5_1 : Int).toNat := (by rw [Ny163.out, List.length_drop] <;> omega)
         rw [show (l0).drop (x5_1 : Int).toNat = y163 from Ny163.out.symm] at hr41
         replace hr41 : Kd.C k52 _ A41 y163.length y163 := (by rw [hA41]; exact hr41)
         rw [← hy41, ← hA41, ← hc41] at hcut41
         have HR166 := Aside0.mk hr41
         have HC166 := ra (show y163.length ≤ c41 from by rw [hy41, hc41]; exact Nat.sub_le_sub_right hroom41 _)
         clear hr41 hC41 hroom41 hi041 hsz41 hc41
         have KY41 := Aside0.mk hy41
         have KA41 := Aside0.mk hA41
         clear hy41 hA41
         replace q41 := eq_true q41
         refine start_ (n := 13) (S := fun w' => w'.cell? ⟨gb121, 0, none⟩ = some (.int .i64 a1_0) ∧ w'.cell? ⟨gb121, 1, none⟩ = some (.int .i64 a1_1) ∧ w'.cell? ⟨gb121, 2, none⟩ = some (.int .i64 a1_2) ∧ w'.cell? ⟨gb121, 3, none⟩ = some (.int .i64 a1_3) ∧ w'.cell? ⟨gb121, 4, none⟩ = some (.string a1_4) ∧ w'.cell? ⟨gb121, 5, none⟩ = some (.int .i64 a1_5)) (ds := []) (bl 13 0) (by kernel_rfl) rfl rfl ⟨(blk_cell BK121.out 0).trans rfl, (blk_cell BK121.out 1).trans rfl, (blk_cell BK121.out 2).trans rfl, (blk_cell BK121.out 3).trans rfl, (blk_cell BK121.out 4).trans rfl, (blk_cell BK121.out 5).trans rfl⟩ (fun hHeld => ?_); refine with_tabW spec_l5Slot.tab4 spec_l5Slot.bits4 (fun HT_ HW_ => ?_)
         generalize w38.drew = w39 at BK121 HB HR153 HR166 hHeld ⊢
         refine pu 1 21 (bl 13 2) ?_
         refine pu 2 22 (bl 13 6) ?_
         refine pu 3 23 (bl 13 14) ?_
         refine pu 8 28 (bl 13 270) ?_
         refine pu 9 29 (bl 13 782) ?_
         refine pu 10 30 (bl 13 1806) ?_
         refine tk 5 25 (bl 13 1838) ?_ hHeld
         refine join_ (σ := Value × Value × Value) 3 #[true, true, true, true, true, true, true, false, true, true, true, false, false] (fun s_ => [(20, s_.1), (24, s_.2.1), (26, s_.2.2)]) (fun s_ w' => (w'.cell? ⟨gb121, 0, none⟩ = some (.int .i64 a1_0) ∧ w'.cell? ⟨gb121, 1, none⟩ = some (.int .i64 a1_1) ∧ w'.cell? ⟨gb121, 2, none⟩ = some (.int .i64 a1_2) ∧ w'.cell? ⟨gb121, 3, none⟩ = some (.int .i64 a1_3) ∧ w'.cell? ⟨gb121, 4, none⟩ = some (.string a1_4) ∧ w'.cell? ⟨gb121, 5, none⟩ = some (.int .i64 a1_5)) ∧ (Kd.R k52 52 w' w.heap.size (fun k_ => some k_ ≠ (s_.2.2 : Value).ownBlock ∧ k_ ≠ gb121) s_.2.1 y154) ∧ (Kd.R k52 52 w' w.heap.size (fun k_ => some k_ ≠ (s_.2.1 : Value).ownBlock ∧ k_ ≠ gb121) s_.2.2 y157) ∧ (w'.heap[gb121]? = some (.cells #[.int .i64 a1_0, .int .i64 a1_1, .int .i64 a1_2, .int .i64 a1_3, .string a1_4, .int .i64 a1_5] 52 (0, 0))) ∧ (Below w.heap.size w w')) ?_ ?_
         rotate_left
         ·intro hCont
          refine two_ (i := 0) (j := 6) (Ni := some 20) (Nj := some 26) #[true, true, true, true, false, true, false, false, true, true, true, false, false] #[false, true, true, true, false, true, true, false, true, true, true, false, false] rfl rfl rfl rfl (two_of HT_.out (by kernel_rfl)) (by decide) (by decide) (fun K hK => ?_) (fun K hK => ?_)
          ·skip
           refine Kd.R_lit_step k52 _ 52 ?hg (N := 20) ?hd (xs := ([] : List (S52))) (inner := []) (ok := fun _ => True) (okp := fun _ => True) ?hr ?hp (fun _ hk => hk) trivial (Below.refl _ _) (Nat.le_refl _) (by simp) ?_; (case hd => rfl); (case hg => rfl); (case hr => first | (go_simp; done) | (go_simp; rfl)); (case hp => exact (Reps.none _ _))
           intro v148 w42 ho43 hb hg_ hnew_
           clear hg_ hnew_
           (first | rw [← Ny147.out] at ho43 | (simp only [Int.reduceToNat] at ho43; rw [← Ny147.out] at ho43))
           have _ := ra (Kd.R_lower (Kd.R_newB ho43 (g := gb121) (o := .cells #[.int .i64 a1_0, .int .i64 a1_1, .int .i64 a1_2, .int .i64 a1_3, .string a1_4, .int .i64 a1_5] 52 (0, 0)) (bk BK121)) (below_size bq))
           have _ := bb (bk BK121) hb
           have _ := bs hb
           clear BK121 HB
           rename_i HO149 BK121 HB
           clear hb ho43
           refine hK.out _ _ ⟨(blk_cell BK121.out 0).trans rfl, (blk_cell BK121.out 1).trans rfl, (blk_cell BK121.out 2).trans rfl, (blk_cell BK121.out 3).trans rfl, (blk_cell BK121.out 4).trans rfl, (blk_cell BK121.out 5).trans rfl⟩ (fun hHeld => ?_)
           clear hK K
           refine nm 20 ?_
           refine two_ (i := 4) (j := 6) (Ni := some 24) (Nj := some 26) #[true, true, true, true, true, true, false, false, true, true, true, false, false] #[true, true, true, true, false, true, true, false, true, true, true, false, false] rfl rfl rfl rfl (two_of HT_.out (by kernel_rfl)) (by decide) (by decide) (fun K hK => ?_) (fun K hK => ?_)
           ·skip
            refine Kd.R_append_rows_step k52 (w0 := w) w.heap.size (by rfl) (.tmp 20) (.tmp 23) 50 52 (.agg #[(.int .i64 0), (.int .i64 0), (.int .i64 0), (.int .i64 0), (.string ⟨#[]⟩), (.int .i64 0)]) 56 rfl Try.underlying50 info52 rfl (by decide) (by omega) v148 y147 y150 _ _ _ (fun k_ => k_ ≠ gb121) (fun _ => False) rfl rfl ?aO ?aR (fun _ _ h => h) (fun _ h => h.elim) ?aF ?aB ?aS ?aL ?_
            (case aR => exact sc HR153)
            (case aB => exact bq)
            (case aF => exact (fun k_ hk => Kd.freshB (g := gb121) (o := .cells #[.int .i64 a1_0, .int .i64 a1_1, .int .i64 a1_2, .int .i64 a1_3, .string a1_4, .int .i64 a1_5] 52 (0, 0)) (bk BK121) k_ hk))
            (case aO => exact (by (with_reducible repeat (first | apply Kd.R_alloc | apply Kd.R_drewN | apply Kd.R_drew)); exact Kd.R_mono HO149.out (fun _ hk => hk.2)))
            (case aS => exact (below_size bq))
            (case aL => have := LMc33.out; omega)
            intro v155 w44 ho hb hg hat
            rw [← Ny154.out] at ho
            have _ := ra (blk_grown (g := gb121) (o := .cells #[.int .i64 a1_0, .int .i64 a1_1, .int .i64 a1_2, .int .i64 a1_3, .string a1_4, .int .i64 a1_5] 52 (0, 0)) (bk BK121) hg (Kd.R_away HO149.out (fun _ hk => hk.2)))
            have _ := ra (hb)
            have _ := ra (ho)
            clear BK121 HB HO149
            rename_i BK121 HB HO156
            clear ho hb hg hat
            refine hK.out _ _ ⟨(blk_cell BK121.out 0).trans rfl, (blk_cell BK121.out 1).trans rfl, (blk_cell BK121.out 2).trans rfl, (blk_cell BK121.out 3).trans rfl, (blk_cell BK121.out 4).trans rfl, (blk_cell BK121.out 5).trans rfl⟩ (fun hHeld => ?_)
            clear hK K
            refine nm 24 ?_
            refine oe 6 26 (bl 13 1919) (fun K hK => ?_)
            refine Kd.R_lit_step k52 _ 52 ?hg (N := 26) ?hd (xs := ([(⟨a1_0, a1_1, a1_2, a1_3, a1_4, a1_5⟩ : S52)] : List (S52))) (inner := [.int .i64 a1_0, .int .i64 a1_1, .int .i64 a1_2, .int .i64 a1_3, .string a1_4, .int .i64 a1_5]) (ok := fun _ => True) (okp := fun _ => True) ?hr ?hp (fun _ hk => hk) trivial (Below.refl _ _) (Nat.le_refl _) (by simp) ?_; (case hd => rfl); (case hg => rfl); (case hr => first | (go_simp; done) | (go_simp; rfl)); (case hp => exact (Reps.c6 (show Kd.M k52 _ _ _ (⟨a1_0, a1_1, a1_2, a1_3, a1_4, a1_5⟩ : S52) [.int .i64 a1_0, .int .i64 a1_1, .int .i64 a1_2, .int .i64 a1_3, .string a1_4, .int .i64 a1_5] from (k52_mkM _ _ _ (⟨a1_0, a1_1, a1_2, a1_3, a1_4, a1_5⟩ : S52) )) (Reps.none _ _)))
            intro v158 w45 ho46 hb hg_ hnew_
            clear hg_ hnew_
            (first | rw [← Ny157.out] at ho46 | (simp only [Int.reduceToNat] at ho46; rw [← Ny157.out] at ho46))
            have _ := ra (Kd.R_elder' (rq HO156) (Kd.R_base ho46) hb)
            have _ := ra (Kd.R_lower (Kd.R_newB (Kd.R_new' ho46 (Kd.R_lt (rq HO156))) (g := gb121) (o := .cells #[.int .i64 a1_0, .int .i64 a1_1, .int .i64 a1_2, .int .i64 a1_3, .string a1_4, .int .i64 a1_5] 52 (0, 0)) (bk BK121)) (below_size bq))
            have _ := bb (bk BK121) hb
            have _ := bs hb
            clear HO156 BK121 HB
            rename_i HO156 HO159 BK121 HB
            clear hb ho46
            refine hK.out _ _ ⟨(blk_cell BK121.out 0).trans rfl, (blk_cell BK121.out 1).trans rfl, (blk_cell BK121.out 2).trans rfl, (blk_cell BK121.out 3).trans rfl, (blk_cell BK121.out 4).trans rfl, (blk_cell BK121.out 5).trans rfl⟩ (fun hHeld => ?_)
            clear hK K
            refine nm 26 ?_
            exact norm_ (by simp only [putAll, Act.put, List.setIfInBounds_toArray, List.set_cons_zero, List.set_cons_succ]) (hCont (v148, v155, v158) _ ⟨hHeld, (by (with_reducible repeat (first | apply Kd.R_alloc | apply Kd.R_drewN | apply Kd.R_drew)); exact Kd.R_mono HO156.out (fun _ hk => ⟨hk.2, hk.1⟩)), (by (with_reducible repeat (first | apply Kd.R_alloc | apply Kd.R_drewN | apply Kd.R_drew)); exact Kd.R_mono HO159.out (fun _ hk => ⟨hk.1.2, hk.2⟩)), (bk BK121), bq⟩)
           ·skip
            refine Kd.R_lit_step k52 _ 52 ?hg (N := 26) ?hd (xs := ([(⟨a1_0, a1_1, a1_2, a1_3, a1_4, a1_5⟩ : S52)] : List (S52))) (inner := [.int .i64 a1_0, .int .i64 a1_1, .int .i64 a1_2, .int .i64 a1_3, .string a1_4, .int .i64 a1_5]) (ok := fun _ => True) (okp := fun _ => True) ?hr ?hp (fun _ hk => hk) trivial (Below.refl _ _) (Nat.le_refl _) (by simp) ?_; (case hd => rfl); (case hg => rfl); (case hr => first | (go_simp; done) | (go_simp; rfl)); (case hp => exact (Reps.c6 (show Kd.M k52 _ _ _ (⟨a1_0, a1_1, a1_2, a1_3, a1_4, a1_5⟩ : S52) [.int .i64 a1_0, .int .i64 a1_1, .int .i64 a1_2, .int .i64 a1_3, .string a1_4, .int .i64 a1_5] from (k52_mkM _ _ _ (⟨a1_0, a1_1, a1_2, a1_3, a1_4, a1_5⟩ : S52) )) (Reps.none _ _)))
            intro v158 w44 ho45 hb hg_ hnew_
            clear hg_ hnew_
            (first | rw [← Ny157.out] at ho45 | (simp only [Int.reduceToNat] at ho45; rw [← Ny157.out] at ho45))
            have _ := ra (Kd.R_elder' (rq HO149) (Kd.R_base ho45) hb)
            have _ := ra (Kd.R_lower (Kd.R_newB (Kd.R_new' ho45 (Kd.R_lt (rq HO149))) (g := gb121) (o := .cells #[.int .i64 a1_0, .int .i64 a1_1, .int .i64 a1_2, .int .i64 a1_3, .string a1_4, .int .i64 a1_5] 52 (0, 0)) (bk BK121)) (below_size bq))
            have _ := bb (bk BK121) hb
            have _ := bs hb
            clear HO149 BK121 HB
            rename_i HO149 HO159 BK121 HB
            clear hb ho45
            refine hK.out _ _ ⟨(blk_cell BK121.out 0).trans rfl, (blk_cell BK121.out 1).trans rfl, (blk_cell BK121.out 2).trans rfl, (blk_cell BK121.out 3).trans rfl, (blk_cell BK121.out 4).trans rfl, (blk_cell BK121.out 5).trans rfl⟩ (fun hHeld => ?_)
            clear hK K
            refine nm 26 ?_
            refine oe 4 24 (bl 13 1919) (fun K hK => ?_)
            refine Kd.R_append_rows_step k52 (w0 := w) w.heap.size (by rfl) (.tmp 20) (.tmp 23) 50 52 (.agg #[(.int .i64 0), (.int .i64 0), (.int .i64 0), (.int .i64 0), (.string ⟨#[]⟩), (.int .i64 0)]) 56 rfl Try.underlying50 info52 rfl (by decide) (by omega) v148 y147 y150 _ _ _ (fun k_ => some k_ ≠ (v158 : Value).ownBlock ∧ k_ ≠ gb121) (fun _ => False) rfl rfl ?aO ?aR (fun _ _ h => h) (fun _ h => h.elim) ?aF ?aB ?aS ?aL ?_
            (case aR => exact sc HR153)
            (case aB => exact bq)
            (case aF => exact (fun k_ hk => ⟨Kd.fresh' (Kd.R_lt (rq HO159)) k_ hk, Kd.freshB (g := gb121) (o := .cells #[.int .i64 a1_0, .int .i64 a1_1, .int .i64 a1_2, .int .i64 a1_3, .string a1_4, .int .i64 a1_5] 52 (0, 0)) (bk BK121) k_ hk⟩))
            (case aO => exact (by (with_reducible repeat (first | apply Kd.R_alloc | apply Kd.R_drewN | apply Kd.R_drew)); exact Kd.R_mono HO149.out (fun _ hk => ⟨hk.2, hk.1.2⟩)))
            (case aS => exact (below_size bq))
            (case aL => have := LMc33.out; omega)
            intro v155 w46 ho hb hg hat
            rw [← Ny154.out] at ho
            have _ := ra (blk_grown (g := gb121) (o := .cells #[.int .i64 a1_0, .int .i64 a1_1, .int .i64 a1_2, .int .i64 a1_3, .string a1_4, .int .i64 a1_5] 52 (0, 0)) (bk BK121) hg (Kd.R_away HO149.out (fun _ hk => hk.1.2)))
            have _ := ra (Kd.R_after (ok := (fun k_ => k_ ≠ gb121)) (by (with_reducible repeat (first | apply Kd.R_alloc | apply Kd.R_drewN | apply Kd.R_drew)); exact Kd.R_mono HO159.out (fun _ hk => ⟨hk.2, hk.1.2⟩)) hg hat)
            have _ := ra (hb)
            have _ := ra (ho)
            clear BK121 HO159 HB HO149
            rename_i BK121 HO159 HB HO156
            clear ho hb hg hat
            refine hK.out _ _ ⟨(blk_cell BK121.out 0).trans rfl, (blk_cell BK121.out 1).trans rfl, (blk_cell BK121.out 2).trans rfl, (blk_cell BK121.out 3).trans rfl, (blk_cell BK121.out 4).trans rfl, (blk_cell BK121.out 5).trans rfl⟩ (fun hHeld => ?_)
            clear hK K
            refine nm 24 ?_
            exact norm_ (by simp only [putAll, Act.put, List.setIfInBounds_toArray, List.set_cons_zero, List.set_cons_succ]) (hCont (v148, v155, v158) _ ⟨hHeld, (rq HO156), (by (with_reducible repeat (first | apply Kd.R_alloc | apply Kd.R_drewN | apply Kd.R_drew)); exact Kd.R_mono HO159.out (fun _ hk => ⟨hk.2, hk.1⟩)), (bk BK121), bq⟩)
          ·skip
           refine Kd.R_lit_step k52 _ 52 ?hg (N := 26) ?hd (xs := ([(⟨a1_0, a1_1, a1_2, a1_3, a1_4, a1_5⟩ : S52)] : List (S52))) (inner := [.int .i64 a1_0, .int .i64 a1_1, .int .i64 a1_2, .int .i64 a1_3, .string a1_4, .int .i64 a1_5]) (ok := fun _ => True) (okp := fun _ => True) ?hr ?hp (fun _ hk => hk) trivial (Below.refl _ _) (Nat.le_refl _) (by simp) ?_; (case hd => rfl); (case hg => rfl); (case hr => first | (go_simp; done) | (go_simp; rfl)); (case hp => exact (Reps.c6 (show Kd.M k52 _ _ _ (⟨a1_0, a1_1, a1_2, a1_3, a1_4, a1_5⟩ : S52) [.int .i64 a1_0, .int .i64 a1_1, .int .i64 a1_2, .int .i64 a1_3, .string a1_4, .int .i64 a1_5] from (k52_mkM _ _ _ (⟨a1_0, a1_1, a1_2, a1_3, a1_4, a1_5⟩ : S52) )) (Reps.none _ _)))
           intro v158 w42 ho43 hb hg_ hnew_
           clear hg_ hnew_
           (first | rw [← Ny157.out] at ho43 | (simp only [Int.reduceToNat] at ho43; rw [← Ny157.out] at ho43))
           have _ := ra (Kd.R_lower (Kd.R_newB ho43 (g := gb121) (o := .cells #[.int .i64 a1_0, .int .i64 a1_1, .int .i64 a1_2, .int .i64 a1_3, .string a1_4, .int .i64 a1_5] 52 (0, 0)) (bk BK121)) (below_size bq))
           have _ := bb (bk BK121) hb
           have _ := bs hb
           clear BK121 HB
           rename_i HO159 BK121 HB
           clear hb ho43
           refine hK.out _ _ ⟨(blk_cell BK121.out 0).trans rfl, (blk_cell BK121.out 1).trans rfl, (blk_cell BK121.out 2).trans rfl, (blk_cell BK121.out 3).trans rfl, (blk_cell BK121.out 4).trans rfl, (blk_cell BK121.out 5).trans rfl⟩ (fun hHeld => ?_)
           clear hK K
           refine nm 26 ?_
           refine oe 0 20 (bl 13 1903) (fun K hK => ?_)
           refine Kd.R_lit_step k52 _ 52 ?hg (N := 20) ?hd (xs := ([] : List (S52))) (inner := []) (ok := fun _ => True) (okp := fun _ => True) ?hr ?hp (fun _ hk => hk) trivial (Below.refl _ _) (Nat.le_refl _) (by simp) ?_; (case hd => rfl); (case hg => rfl); (case hr => first | (go_simp; done) | (go_simp; rfl)); (case hp => exact (Reps.none _ _))
           intro v148 w44 ho45 hb hg_ hnew_
           clear hg_ hnew_
           (first | rw [← Ny147.out] at ho45 | (simp only [Int.reduceToNat] at ho45; rw [← Ny147.out] at ho45))
           have _ := ra (Kd.R_elder' (rq HO159) (Kd.R_base ho45) hb)
           have _ := ra (Kd.R_lower (Kd.R_newB (Kd.R_new' ho45 (Kd.R_lt (rq HO159))) (g := gb121) (o := .cells #[.int .i64 a1_0, .int .i64 a1_1, .int .i64 a1_2, .int .i64 a1_3, .string a1_4, .int .i64 a1_5] 52 (0, 0)) (bk BK121)) (below_size bq))
           have _ := bb (bk BK121) hb
           have _ := bs hb
           clear HO159 BK121 HB
           rename_i HO159 HO149 BK121 HB
           clear hb ho45
           refine hK.out _ _ ⟨(blk_cell BK121.out 0).trans rfl, (blk_cell BK121.out 1).trans rfl, (blk_cell BK121.out 2).trans rfl, (blk_cell BK121.out 3).trans rfl, (blk_cell BK121.out 4).trans rfl, (blk_cell BK121.out 5).trans rfl⟩ (fun hHeld => ?_)
           clear hK K
           refine nm 20 ?_
           refine oe 4 24 (bl 13 1919) (fun K hK => ?_)
           refine Kd.R_append_rows_step k52 (w0 := w) w.heap.size (by rfl) (.tmp 20) (.tmp 23) 50 52 (.agg #[(.int .i64 0), (.int .i64 0), (.int .i64 0), (.int .i64 0), (.string ⟨#[]⟩), (.int .i64 0)]) 56 rfl Try.underlying50 info52 rfl (by decide) (by omega) v148 y147 y150 _ _ _ (fun k_ => some k_ ≠ (v158 : Value).ownBlock ∧ k_ ≠ gb121) (fun _ => False) rfl rfl ?aO ?aR (fun _ _ h => h) (fun _ h => h.elim) ?aF ?aB ?aS ?aL ?_
           (case aR => exact sc HR153)
           (case aB => exact bq)
           (case aF => exact (fun k_ hk => ⟨Kd.fresh' (Kd.R_lt (rq HO159)) k_ hk, Kd.freshB (g := gb121) (o := .cells #[.int .i64 a1_0, .int .i64 a1_1, .int .i64 a1_2, .int .i64 a1_3, .string a1_4, .int .i64 a1_5] 52 (0, 0)) (bk BK121) k_ hk⟩))
           (case aO => exact (by (with_reducible repeat (first | apply Kd.R_alloc | apply Kd.R_drewN | apply Kd.R_drew)); exact Kd.R_mono HO149.out (fun _ hk => ⟨hk.1.2, hk.2⟩)))
           (case aS => exact (below_size bq))
           (case aL => have := LMc33.out; omega)
           intro v155 w46 ho hb hg hat
           rw [← Ny154.out] at ho
           have _ := ra (blk_grown (g := gb121) (o := .cells #[.int .i64 a1_0, .int .i64 a1_1, .int .i64 a1_2, .int .i64 a1_3, .string a1_4, .int .i64 a1_5] 52 (0, 0)) (bk BK121) hg (Kd.R_away HO149.out (fun _ hk => hk.2)))
           have _ := ra (Kd.R_after (ok := (fun k_ => k_ ≠ gb121)) (by (with_reducible repeat (first | apply Kd.R_alloc | apply Kd.R_drewN | apply Kd.R_drew)); exact Kd.R_mono HO159.out (fun _ hk => ⟨hk.1.2, hk.2⟩)) hg hat)
           have _ := ra (hb)
           have _ := ra (ho)
           clear BK121 HO159 HB HO149
           rename_i BK121 HO159 HB HO156
           clear ho hb hg hat
           refine hK.out _ _ ⟨(blk_cell BK121.out 0).trans rfl, (blk_cell BK121.out 1).trans rfl, (blk_cell BK121.out 2).trans rfl, (blk_cell BK121.out 3).trans rfl, (blk_cell BK121.out 4).trans rfl, (blk_cell BK121.out 5).trans rfl⟩ (fun hHeld => ?_)
           clear hK K
           refine nm 24 ?_
           exact norm_ (by simp only [putAll, Act.put, List.setIfInBounds_toArray, List.set_cons_zero, List.set_cons_succ]) (hCont (v148, v155, v158) _ ⟨hHeld, (rq HO156), (by (with_reducible repeat (first | apply Kd.R_alloc | apply Kd.R_drewN | apply Kd.R_drew)); exact Kd.R_mono HO159.out (fun _ hk => ⟨hk.2, hk.1⟩)), (bk BK121), bq⟩)
         rintro ⟨v148, v155, v158⟩ w47 ⟨hS_, h0_, h1_, h2_, h3_⟩
         have _ : Aside0 (Kd.R k52 52 w47 w.heap.size (fun k_ => some k_ ≠ (v158 : Value).ownBlock ∧ k_ ≠ gb121) v155 y154) := ⟨h0_⟩
         have _ : Aside0 (Kd.R k52 52 w47 w.heap.size (fun k_ => some k_ ≠ (v155 : Value).ownBlock ∧ k_ ≠ gb121) v158 y157) := ⟨h1_⟩
         have _ : Aside0 (w47.heap[gb121]? = some (.cells #[.int .i64 a1_0, .int .i64 a1_1, .int .i64 a1_2, .int .i64 a1_3, .string a1_4, .int .i64 a1_5] 52 (0, 0))) := ⟨h2_⟩
         have _ : Aside0 (Below w.heap.size w w47) := ⟨h3_⟩
         clear BK121 HB
         clear h0_ h1_ h2_ h3_
         rename_i HO156 HO159 BK121 HB
         have hHeld : w47.cell? ⟨gb121, 0, none⟩ = some (.int .i64 a1_0) ∧ w47.cell? ⟨gb121, 1, none⟩ = some (.int .i64 a1_1) ∧ w47.cell? ⟨gb121, 2, none⟩ = some (.int .i64 a1_2) ∧ w47.cell? ⟨gb121, 3, none⟩ = some (.int .i64 a1_3) ∧ w47.cell? ⟨gb121, 4, none⟩ = some (.string a1_4) ∧ w47.cell? ⟨gb121, 5, none⟩ = some (.int .i64 a1_5) := hS_
         obtain ⟨Ao49, co49, eo49⟩ := Kd.R_slice HO159.out
         (first | subst eo49 | (injection eo49 with f1_ f2_ f3_; have f4_ := f1_.symm; have f5_ := f3_.symm; clear f1_ f2_ f3_; subst f4_; subst f5_))
         refine norm_ (a' := ?_) ?_ ?_
         rotate_left
         ·simp only [putAll, Act.put, List.setIfInBounds_toArray, List.set_cons_zero, List.set_cons_succ]
          rfl
         refine oe 7 27 (bl 13 2047) (fun K hK => ?_)
         refine Kd.R_append_rows_step k52 (w0 := w) w.heap.size (by rfl) (.tmp 24) (.tmp 26) 50 52 (.agg #[(.int .i64 0), (.int .i64 0), (.int .i64 0), (.int .i64 0), (.string ⟨#[]⟩), (.int .i64 0)]) 56 rfl Try.underlying50 info52 rfl (by decide) (by omega) v155 y154 y157 _ _ _ (fun k_ => some k_ ≠ (.slice Ao49 y157.length co49 : Value).ownBlock ∧ k_ ≠ gb121) (fun _ => False) rfl rfl ?aO ?aR (fun _ _ h => h) (fun _ h => h.elim) ?aF ?aB ?aS ?aL ?_
         (case aR => exact sr HO159)
         (case aB => exact bq)
         (case aF => exact (fun k_ hk => ⟨Kd.fresh' (Kd.R_lt (rq HO159)) k_ hk, Kd.freshB (g := gb121) (o := .cells #[.int .i64 a1_0, .int .i64 a1_1, .int .i64 a1_2, .int .i64 a1_3, .string a1_4, .int .i64 a1_5] 52 (0, 0)) (bk BK121) k_ hk⟩))
         (case aO => exact (rq HO156))
         (case aS => exact (below_size bq))
         (case aL => have := LMc34.out; omega)
         intro v161 w48 ho hb hg hat
         rw [← Ny160.out] at ho
         have _ := ra (blk_grown (g := gb121) (o := .cells #[.int .i64 a1_0, .int .i64 a1_1, .int .i64 a1_2, .int .i64 a1_3, .string a1_4, .int .i64 a1_5] 52 (0, 0)) (bk BK121) hg (Kd.R_away HO156.out (fun _ hk => hk.2)))
         have _ := ra (Kd.R_after (ok := (fun k_ => k_ ≠ gb121)) (by (with_reducible repeat (first | apply Kd.R_alloc | apply Kd.R_drewN | apply Kd.R_drew)); exact Kd.R_mono HO159.out (fun _ hk => ⟨hk.2, hk.1⟩)) hg hat)
         have _ := ra (hb)
         have _ := ra (ho)
         clear BK121 HO159 HB HO156
         rename_i BK121 HO159 HB HO162
         clear ho hb hg hat
         refine hK.out _ _ ⟨(blk_cell BK121.out 0).trans rfl, (blk_cell BK121.out 1).trans rfl, (blk_cell BK121.out 2).trans rfl, (blk_cell BK121.out 3).trans rfl, (blk_cell BK121.out 4).trans rfl, (blk_cell BK121.out 5).trans rfl⟩ (fun hHeld => ?_)
         clear hK K
         refine nm 27 ?_
         refine oe 11 31 (bl 13 4095) (fun K hK => ?_)
         refine Kd.R_append_rows_step k52 (w0 := w) w.heap.size (by rfl) (.tmp 27) (.tmp 30) 50 52 (.agg #[(.int .i64 0), (.int .i64 0), (.int .i64 0), (.int .i64 0), (.string ⟨#[]⟩), (.int .i64 0)]) 56 rfl Try.underlying50 info52 rfl (by decide) (by omega) v161 y160 y163 _ _ _ (fun k_ => some k_ ≠ (.slice Ao49 y157.length co49 : Value).ownBlock ∧ k_ ≠ gb121) (fun _ => False) rfl rfl ?aO ?aR (fun _ _ h => h) (fun _ h => h.elim) ?aF ?aB ?aS ?aL ?_
         (case aR => exact sc HR166)
         (case aB => exact bq)
         (case aF => exact (fun k_ hk => ⟨Kd.fresh' (Kd.R_lt (rq HO159)) k_ hk, Kd.freshB (g := gb121) (o := .cells #[.int .i64 a1_0, .int .i64 a1_1, .int .i64 a1_2, .int .i64 a1_3, .string a1_4, .int .i64 a1_5] 52 (0, 0)) (bk BK121) k_ hk⟩))
         (case aO => exact (rq HO162))
         (case aS => exact (below_size bq))
         (case aL => have := LMc37.out; omega)
         intro v168 w50 ho hb hg hat
         rw [← Ny167.out] at ho
         have _ := ra (blk_grown (g := gb121) (o := .cells #[.int .i64 a1_0, .int .i64 a1_1, .int .i64 a1_2, .int .i64 a1_3, .string a1_4, .int .i64 a1_5] 52 (0, 0)) (bk BK121) hg (Kd.R_away HO162.out (fun _ hk => hk.2)))
         have _ := ra (Kd.R_after (ok := (fun k_ => k_ ≠ gb121)) (rq HO159) hg hat)
         have _ := ra (hb)
         have _ := ra (ho)
         clear BK121 HO159 HB HO162
         rename_i BK121 HO159 HB HO169
         clear ho hb hg hat
         refine hK.out _ _ ⟨(blk_cell BK121.out 0).trans rfl, (blk_cell BK121.out 1).trans rfl, (blk_cell BK121.out 2).trans rfl, (blk_cell BK121.out 3).trans rfl, (blk_cell BK121.out 4).trans rfl, (blk_cell BK121.out 5).trans rfl⟩ (fun hHeld => ?_)
         clear hK K
         refine nm 31 ?_
         refine pu 12 4 (bl 13 8191) ?_
         refine done_ (done_of HT_.out (by kernel_rfl)) ?_
         try go_wp2
         go_ret
         exact ⟨_, re, by (with_reducible repeat (first | apply Kd.R_alloc | apply Kd.R_drewN | apply Kd.R_drew)); exact Kd.R_mono HO169.out (fun _ hk => trivial), bq⟩
        ·rw [if_neg c37] at H
         exact absurd H (by simp)
       ·rw [if_neg c34] at H
        exact absurd H (by simp)
      ·rw [if_neg c33] at H
       exact absurd H (by simp)
     ·rw [if_neg c32] at H
      exact absurd H (by simp)
    ·rw [if_neg c31] at H
     exact absurd H (by simp)
end Go.Proofs.Ytgklmafdbgnohaa.PA
end
