/- Contracts of the functions spec_l1Open, spec_l1Rd_pick, spec_l1DrawBox, spec_l1Rd_of, spec_l2Copy, spec_l1Many, spec_l1SpoilBox. (Began as a print of the kit's tool.) -/
import Derived.Test.YtfoapgcnjnogiaaPAd
import Derived.Test.YtfoapgcnjnogiaaCx
import Derived.Test.YtfoapgcnjnogiaaCz
import Derived.Test.YtfoapgcnjnogiaaCy
namespace Go.Proofs.Ytfoapgcnjnogiaa.PA
open Go.RowKit Go.Proofs.YtfoapgcnjnogiaaW.PrintWords Go.Proofs.YtfoapgcnjnogiaaW.PrintLast Go.Proofs.YtfoapgcnjnogiaaW.PrintMore Go.Proofs.Ytfoapgcnjnogiaa.Z
attribute [local go_sem] max2_int min2_int max_two min_two max_three min_three max_four min_four
set_option linter.unusedVariables false
set_option linter.unusedSimpArgs false
set_option maxHeartbeats 8000000 in
set_option maxRecDepth 100000 in
theorem spec_l1Open.calls (A0 : Option Addr) (c0 : Nat) (l0 : List Int) (r1 : List Int) (r2 : Int) (w0 w : World) (hB : Below w0.heap.size w0 w) (hr0 : Kd.C (Kd.int .u8) w0 A0 l0.length l0) (hc0 : l0.length ≤ c0) (h : spec_l1Open.f l0 = some (r1, r2)) :
  Calls Try.prog 63 #[.slice A0 l0.length c0] w fun e w' => ∃ g_ : Nat, e = .returned (.pointer (some ⟨g_, 0, none⟩)) ∧ IsS90 w0 w' g_ r1 r2 ∧ Below w0.heap.size w0 w' ∧ Below w.heap.size w w' := by
 have hu90 := Try.underlying90
 have HR0 := Aside0.mk hr0
 have HC0 := Aside0.mk hc0
 clear hr0 hc0
 have HBW := ra (Below.refl w.heap.size w)
 have HW0 := Aside0.mk hB.size
 have HB := Aside0.mk hB
 clear hB
 have H : (if (l0.length : Int) > 2000 then (if 2000 ≤ (l0.length : Int) then (some (l0.take 2000, 0)) else (none)) else (some (l0, 0))) = some (r1, r2) := h
 clear h
 by_cases c2 : (l0.length : Int) > 2000
 ·rw [if_pos c2] at H
  have c2b0 : decide (2000 < (l0.length : Int)) = true := decide_eq_true c2
  have c2b1 : decide (2000 < l0.length) = true := decide_eq_true (by omega)
  clear c2
  by_cases c3 : 2000 ≤ (l0.length : Int)
  ·rw [if_pos c3] at H
   have c3b0 := eq_true c3
   have c3b1 : decide (2000 ≤ (l0.length : Int)) = true := decide_eq_true c3
   clear c3
   simp only [Option.some.injEq, Prod.mk.injEq] at H
   obtain ⟨rfl, rfl⟩ := H
   obtain ⟨i04, hi04, _, hsz4, _⟩ := info_parts info5
   obtain ⟨hcut4, hA4, hC4⟩ := print_take_of (P := Try.prog) (Value.int .u8) 0 61 5 .i64 Try.underlying61 hi04 hsz4 A0 c0 l0 2000 (by omega) (od) HC0.out
   have HR554 := ra (Kd.C_of_reads (h1 := fun _ => rfl) (hA4 _ (Kd.reads_of_C HR0.out)))
   have HC554 := Aside0.mk hC4
   clear hA4 hC4 hi04 hsz4
   go_enter Try.func63, Try.ntmps63
   go_wp2_with (first | ((with_reducible refine gate_dst (N := 10) rfl ?_); refine be 10 #[.slice A0 (l0.take 2000).length c0, .int .i64 0] 90 ?_; intro gb555 hg w5 hbox hb; have _ := ra (below_step HBW.out hb); have _ := bs hb; have _ := ra (hbox); have _ := ra ((by rw [hg]; exact (below_size (by repeat (first | (with_reducible first | exact HBW.out | apply below_alloc | apply pw_below_drewN | apply below_drew1) | exact HBW.out))) : w.heap.size ≤ gb555)); have _ := ra ((Nat.le_trans HW0.out (by rw [hg]; exact (below_size (by repeat (first | (with_reducible first | exact HBW.out | apply below_alloc | apply pw_below_drewN | apply below_drew1) | exact HBW.out))) : w.heap.size ≤ gb555) : w0.heap.size ≤ gb555)); clear HBW HB; rename_i HBW HB BK555 GW555 GE555; clear hb hbox hg))
   go_ret
   exact ⟨_, rfl, (show IsS90 w0 _ gb555 (l0.take 2000) 0 from ⟨_, _, bk BK555, GE555.out, HR554.out⟩), bq, by repeat (first | (with_reducible first | exact HBW.out | apply below_alloc | apply pw_below_drewN | apply below_drew1 | refine below_set ?_ GW555.out) | exact HBW.out)⟩
  ·rw [if_neg c3] at H
   exact absurd H (by simp)
 ·rw [if_neg c2] at H
  have c2b0 : decide (2000 < (l0.length : Int)) = false := decide_eq_false c2
  have c2b1 : decide (2000 < l0.length) = false := decide_eq_false (by omega)
  clear c2
  simp only [Option.some.injEq, Prod.mk.injEq] at H
  obtain ⟨rfl, rfl⟩ := H
  go_enter Try.func63, Try.ntmps63
  go_wp2_with (first | ((with_reducible refine gate_dst (N := 10) rfl ?_); refine be 10 #[.slice A0 l0.length c0, .int .i64 0] 90 ?_; intro gb556 hg w6 hbox hb; have _ := ra (below_step HBW.out hb); have _ := bs hb; have _ := ra (hbox); have _ := ra ((by rw [hg]; exact (below_size (by repeat (first | (with_reducible first | exact HBW.out | apply below_alloc | apply pw_below_drewN | apply below_drew1) | exact HBW.out))) : w.heap.size ≤ gb556)); have _ := ra ((Nat.le_trans HW0.out (by rw [hg]; exact (below_size (by repeat (first | (with_reducible first | exact HBW.out | apply below_alloc | apply pw_below_drewN | apply below_drew1) | exact HBW.out))) : w.heap.size ≤ gb556) : w0.heap.size ≤ gb556)); clear HBW HB; rename_i HBW HB BK556 GW556 GE556; clear hb hbox hg))
  go_ret
  exact ⟨_, rfl, (show IsS90 w0 _ gb556 l0 0 from ⟨_, _, bk BK556, GE556.out, HR0.out⟩), bq, by repeat (first | (with_reducible first | exact HBW.out | apply below_alloc | apply pw_below_drewN | apply below_drew1 | refine below_set ?_ GW556.out) | exact HBW.out)⟩
set_option maxHeartbeats 8000000 in
set_option maxRecDepth 100000 in
theorem spec_l1Rd_pick.calls (k : Nat) (g : Nat) (s0_0 : List Int) (s0_1 : Int) (a1 : Int) (r1 : Int) (r2 : Int) (w0 w : World) (hI : IsS90 w0 w g s0_0 s0_1) (hB : Below w0.heap.size w0 w) (h : spec_l1Rd_pick.f k s0_0 s0_1 a1 = some (r1, r2)) :
  Calls Try.prog 65 #[.pointer (some ⟨g, 0, none⟩), .int .i64 a1] w fun e w' => e = .returned (.int .i64 r1) ∧ IsS90 w0 w' g s0_0 r2 ∧ Below w0.heap.size w0 w' ∧ KeepBut w w' g none := by
 have HI0 := Aside0.mk hI
 have HK := ra (KeepBut.refl w g none)
 have HL := Aside0.mk hB.size
 clear hI
 have HW0 := Aside0.mk hB.size
 have HB := Aside0.mk hB
 clear hB
 have H : (if a1 < 1 then (spec_l1Rd_pick.j0 k a1 true s0_0 (wrap64 (s0_1 + 1))) else (spec_l1Rd_pick.j0 k a1 ((s0_0.length : Int) == 0) s0_0 (wrap64 (s0_1 + 1)))) = some (r1, r2) := h
 clear h
 have HC3 := Aside0.mk H
 clear H
 obtain ⟨ASz4_0, cSz4_0, HGz4, hgz4, HSz4_0⟩ := HI0.out
 have hcz4_0 := cellS90_0 HGz4
 have hcz4_1 := cellS90_1 HGz4
 have hfz4_1 := blk_frozen HGz4 1
 clear HGz4 hgz4
 go_enter Try.func65, Try.ntmps65
 go_upto_region 2 with (fail)
 repeat (go_quiet (fail); go_upto_region 2 with (fail))
 go_cut [24] (fun v24 wc => ∃ (kq : Nat) (x24_2 : Bool), v24 = .bool x24_2 ∧ Aside0 (spec_l1Rd_pick.j0 kq a1 x24_2 s0_0 (wrap64 (s0_1 + 1)) = some (r1, r2)) ∧ Aside0 (kq ≤ k) ∧ Aside0 (IsS90 w0 wc g s0_0 (wrap64 (s0_1 + 1))) ∧ Aside0 (KeepBut w wc g none) ∧ Aside0 (Below w0.heap.size w0 wc))
 case first =>
  have H := HC3.out
  clear HC3
  by_cases c5 : a1 < 1
  ·rw [if_pos c5] at H
   have c5b0 : decide (a1 < 1) = true := decide_eq_true c5
   clear c5
   (first | rw [c5b0] | (simp only [i64_w, i32_w]; rw [c5b0]) | skip)
   have H' := Aside0.mk H
   clear H
   go_wp2
   repeat (go_quiet (fail); try go_wp2)
   go_meet
   case rel => exact ⟨_, (true), rs, H', ⟨by first | omega | exact Nat.le_refl _⟩, ⟨by exact qi HI0⟩, ⟨by exact qk _ _ _ HK⟩, ⟨by exact qb HI0 HB⟩⟩
  ·rw [if_neg c5] at H
   have c5b0 : decide (a1 < 1) = false := decide_eq_false c5
   clear c5
   (first | rw [c5b0] | (simp only [i64_w, i32_w]; rw [c5b0]) | skip)
   have H' := Aside0.mk H
   clear H
   obtain ⟨ASz6_0, cSz6_0, HGz6, hgz6, HSz6_0⟩ := HI0.out
   have hcz6_0 := cellS90_0 HGz6
   have hcz6_1 := cellS90_1 HGz6
   have hfz6_1 := blk_frozen HGz6 1
   clear HGz6 hgz6
   go_wp2
   repeat (go_quiet (fail); try go_wp2)
   go_meet
   case rel => exact ⟨_, (((s0_0.length : Int) == 0)), rs, H', ⟨by first | omega | exact Nat.le_refl _⟩, ⟨by exact qi HI0⟩, ⟨by exact qk _ _ _ HK⟩, ⟨by exact qb HI0 HB⟩⟩
 case rest =>
  clear HC3
  try clear c5
  try clear c5b0
  try clear hcz4_0
  try clear hcz4_1
  try clear hcz6_0
  try clear hcz6_1
  try clear hfz4_1
  try clear hfz6_1
  obtain ⟨kq, x24_2, rfl, HA, HJ2, HI0, HK, HB⟩ := hcut
  cases kq with
  | zero => exact absurd HA.out (by simp [spec_l1Rd_pick.j0])
  | succ kj2 =>
   have H := HA.out
   clear HA
   simp only [spec_l1Rd_pick.j0] at H
   by_cases c7 : x24_2 = true
   ·subst c7
    replace H := it H rfl
    simp only [Option.some.injEq, Prod.mk.injEq] at H
    obtain ⟨rfl, rfl⟩ := H
    go_wp2
    repeat (go_quiet (fail); try go_wp2)
    go_ret
    exact ⟨re, by exact qi HI0, by exact qb HI0 HB, by exact qk _ _ _ HK⟩
   ·replace c7 := Bool.eq_false_iff.mpr c7
    subst c7
    have H1 : (if (wrap64 ((wrap64 (s0_1 + 1)) - 1)) < (s0_0.length : Int) then (if 0 ≤ (wrap64 ((wrap64 (s0_1 + 1)) - 1)) then (if a1 = 0 then (none) else (some (Int.tmod (wrap64 (rd s0_0 (wrap64 ((wrap64 (s0_1 + 1)) - 1)))) a1, (wrap64 (s0_1 + 1))))) else (none)) else (if (s0_0.length : Int) = 0 then (none) else (if 0 ≤ (Int.tmod (wrap64 ((wrap64 (s0_1 + 1)) - 1)) (s0_0.length : Int)) then (if (Int.tmod (wrap64 ((wrap64 (s0_1 + 1)) - 1)) (s0_0.length : Int)) < (s0_0.length : Int) then (if 0 ≤ (Int.tmod (wrap64 ((wrap64 ((wrap64 ((wrap64 (s0_1 + 1)) - 1)) * 7)) + 3)) (s0_0.length : Int)) then (if (Int.tmod (wrap64 ((wrap64 ((wrap64 ((wrap64 (s0_1 + 1)) - 1)) * 7)) + 3)) (s0_0.length : Int)) < (s0_0.length : Int) then (if a1 = 0 then (none) else (some (Int.tmod (Go.bits .xor .i64 (wrap64 ((wrap64 ((wrap64 ((wrap64 ((wrap64 (rd s0_0 (Int.tmod (wrap64 ((wrap64 (s0_1 + 1)) - 1)) (s0_0.length : Int)))) * 131)) + (wrap64 ((wrap64 (rd s0_0 (Int.tmod (wrap64 ((wrap64 ((wrap64 ((wrap64 (s0_1 + 1)) - 1)) * 7)) + 3)) (s0_0.length : Int)))) * 1117)))) + (wrap64 ((wrap64 ((wrap64 (s0_1 + 1)) - 1)) * 29)))) + (wrap64 ((wrap64 (Int.tdiv (wrap64 ((wrap64 (s0_1 + 1)) - 1)) (s0_0.length : Int))) * 53)))) (wrap64 (Int.tdiv (wrap64 ((wrap64 ((wrap64 ((wrap64 ((wrap64 (rd s0_0 (Int.tmod (wrap64 ((wrap64 (s0_1 + 1)) - 1)) (s0_0.length : Int)))) * 131)) + (wrap64 ((wrap64 (rd s0_0 (Int.tmod (wrap64 ((wrap64 ((wrap64 ((wrap64 (s0_1 + 1)) - 1)) * 7)) + 3)) (s0_0.length : Int)))) * 1117)))) + (wrap64 ((wrap64 ((wrap64 (s0_1 + 1)) - 1)) * 29)))) + (wrap64 ((wrap64 (Int.tdiv (wrap64 ((wrap64 (s0_1 + 1)) - 1)) (s0_0.length : Int))) * 53)))) 64))) a1, (wrap64 (s0_1 + 1))))) else (none)) else (none)) else (none)) else (none)))) = some (r1, r2) := by rw [if_neg (show ¬ (false = true) by decide)] at H; exact H
    clear H
    have H := H1
    clear H1
    by_cases c8 : (wrap64 ((wrap64 (s0_1 + 1)) - 1)) < (s0_0.length : Int)
    ·rw [if_pos c8] at H
     have c8b0 : decide ((wrap64 ((wrap64 (s0_1 + 1)) - 1)) < (s0_0.length : Int)) = true := decide_eq_true c8
     clear c8
     obtain ⟨ji9, hji9⟩ : ∃ j_ : Int, (wrap64 ((wrap64 (s0_1 + 1)) - 1)) = j_ := ⟨_, rfl⟩
     replace H : (if 0 ≤ (ji9) then (if a1 = 0 then (none) else (some (Int.tmod (wrap64 (rd s0_0 (ji9))) a1, (wrap64 (s0_1 + 1))))) else (none)) = some (r1, r2) := by first | (rw [hji9] at H; exact H) | (simp only [hji9] at H ⊢; exact H)
     (try rw [hji9] at c8b0)
     have hji9w : (IntKind.i64.wrap ((wrap64 (s0_1 + 1)) - 1)) = ji9 := (i64_w _).trans hji9
     by_cases c10 : 0 ≤ (ji9)
     ·rw [if_pos c10] at H
      have c10b0 : decide (0 ≤ (ji9)) = true := decide_eq_true c10
      clear c10
      by_cases c11 : a1 = 0
      ·rw [if_pos c11] at H
       exact absurd H (by simp)
      ·rw [if_neg c11] at H
       have c11b0 : (a1 == 0) = false := beq_eq_false_iff_ne.mpr c11
       have c11b1 : (a1 != 0) = true := bne_iff_ne.mpr c11
       simp only [Option.some.injEq, Prod.mk.injEq] at H
       obtain ⟨rfl, rfl⟩ := H
       obtain ⟨ASz12_0, cSz12_0, HGz12, hgz12, HSz12_0⟩ := HI0.out
       have hcz12_0 := cellS90_0 HGz12
       have hcz12_1 := cellS90_1 HGz12
       have hfz12_1 := blk_frozen HGz12 1
       clear HGz12 hgz12
       have p557 : 0 ≤ ((ji9) : Int) := od
       have q557 : (ji9) < (s0_0.length : Int) := od
       obtain ⟨ad557, e557, hx557_0⟩ := Kd.at_int HSz12_0 (ji9) p557 q557
       cases e557
       replace hx557_0 := pw_cell_below HB.out hx557_0
       replace p557 := eq_true p557
       replace q557 := eq_true q557
       go_wp2
       repeat (go_quiet (fail); try go_wp2)
       go_ret
       exact ⟨by first | rfl | (simp [errW_none, errW_some] <;> rfl) | (simp only [← hji9]; first | rfl | (simp [errW_none, errW_some] <;> rfl)) | (simp [*, errW_none, errW_some] <;> rfl), by exact qi HI0, by exact qb HI0 HB, by exact qk _ _ _ HK⟩
     ·rw [if_neg c10] at H
      exact absurd H (by simp)
    ·rw [if_neg c8] at H
     have c8b0 : decide ((wrap64 ((wrap64 (s0_1 + 1)) - 1)) < (s0_0.length : Int)) = false := decide_eq_false c8
     clear c8
     by_cases c13 : (s0_0.length : Int) = 0
     ·rw [if_pos c13] at H
      exact absurd H (by simp)
     ·rw [if_neg c13] at H
      have c13b0 : ((s0_0.length : Int) == 0) = false := beq_eq_false_iff_ne.mpr c13
      have c13b1 : ((s0_0.length : Int) != 0) = true := bne_iff_ne.mpr c13
      have c13b2 : ¬ (s0_0 = []) := fun h_ => c13 (by rw [h_]; rfl)
      obtain ⟨ji14, hji14⟩ : ∃ j_ : Int, (Int.tmod (wrap64 ((wrap64 (s0_1 + 1)) - 1)) (s0_0.length : Int)) = j_ := ⟨_, rfl⟩
      replace H : (if 0 ≤ (ji14) then (if (ji14) < (s0_0.length : Int) then (if 0 ≤ (Int.tmod (wrap64 ((wrap64 ((wrap64 ((wrap64 (s0_1 + 1)) - 1)) * 7)) + 3)) (s0_0.length : Int)) then (if (Int.tmod (wrap64 ((wrap64 ((wrap64 ((wrap64 (s0_1 + 1)) - 1)) * 7)) + 3)) (s0_0.length : Int)) < (s0_0.length : Int) then (if a1 = 0 then (none) else (some (Int.tmod (Go.bits .xor .i64 (wrap64 ((wrap64 ((wrap64 ((wrap64 ((wrap64 (rd s0_0 (ji14))) * 131)) + (wrap64 ((wrap64 (rd s0_0 (Int.tmod (wrap64 ((wrap64 ((wrap64 ((wrap64 (s0_1 + 1)) - 1)) * 7)) + 3)) (s0_0.length : Int)))) * 1117)))) + (wrap64 ((wrap64 ((wrap64 (s0_1 + 1)) - 1)) * 29)))) + (wrap64 ((wrap64 (Int.tdiv (wrap64 ((wrap64 (s0_1 + 1)) - 1)) (s0_0.length : Int))) * 53)))) (wrap64 (Int.tdiv (wrap64 ((wrap64 ((wrap64 ((wrap64 ((wrap64 (rd s0_0 (ji14))) * 131)) + (wrap64 ((wrap64 (rd s0_0 (Int.tmod (wrap64 ((wrap64 ((wrap64 ((wrap64 (s0_1 + 1)) - 1)) * 7)) + 3)) (s0_0.length : Int)))) * 1117)))) + (wrap64 ((wrap64 ((wrap64 (s0_1 + 1)) - 1)) * 29)))) + (wrap64 ((wrap64 (Int.tdiv (wrap64 ((wrap64 (s0_1 + 1)) - 1)) (s0_0.length : Int))) * 53)))) 64))) a1, (wrap64 (s0_1 + 1))))) else (none)) else (none)) else (none)) else (none)) = some (r1, r2) := by first | (rw [hji14] at H; exact H) | (simp only [hji14] at H ⊢; exact H)
      by_cases c15 : 0 ≤ (ji14)
      ·rw [if_pos c15] at H
       have c15b0 : decide (0 ≤ (ji14)) = true := decide_eq_true c15
       clear c15
       by_cases c16 : (ji14) < (s0_0.length : Int)
       ·rw [if_pos c16] at H
        have c16b0 : decide ((ji14) < (s0_0.length : Int)) = true := decide_eq_true c16
        clear c16
        obtain ⟨ji17, hji17⟩ : ∃ j_ : Int, (Int.tmod (wrap64 ((wrap64 ((wrap64 ((wrap64 (s0_1 + 1)) - 1)) * 7)) + 3)) (s0_0.length : Int)) = j_ := ⟨_, rfl⟩
        replace H : (if 0 ≤ (ji17) then (if (ji17) < (s0_0.length : Int) then (if a1 = 0 then (none) else (some (Int.tmod (Go.bits .xor .i64 (wrap64 ((wrap64 ((wrap64 ((wrap64 ((wrap64 (rd s0_0 (ji14))) * 131)) + (wrap64 ((wrap64 (rd s0_0 (ji17))) * 1117)))) + (wrap64 ((wrap64 ((wrap64 (s0_1 + 1)) - 1)) * 29)))) + (wrap64 ((wrap64 (Int.tdiv (wrap64 ((wrap64 (s0_1 + 1)) - 1)) (s0_0.length : Int))) * 53)))) (wrap64 (Int.tdiv (wrap64 ((wrap64 ((wrap64 ((wrap64 ((wrap64 (rd s0_0 (ji14))) * 131)) + (wrap64 ((wrap64 (rd s0_0 (ji17))) * 1117)))) + (wrap64 ((wrap64 ((wrap64 (s0_1 + 1)) - 1)) * 29)))) + (wrap64 ((wrap64 (Int.tdiv (wrap64 ((wrap64 (s0_1 + 1)) - 1)) (s0_0.length : Int))) * 53)))) 64))) a1, (wrap64 (s0_1 + 1))))) else (none)) else (none)) = some (r1, r2) := by first | (rw [hji17] at H; exact H) | (simp only [hji17] at H ⊢; exact H)
        by_cases c18 : 0 ≤ (ji17)
        ·rw [if_pos c18] at H
         have c18b0 : decide (0 ≤ (ji17)) = true := decide_eq_true c18
         clear c18
         by_cases c19 : (ji17) < (s0_0.length : Int)
         ·rw [if_pos c19] at H
          have c19b0 : decide ((ji17) < (s0_0.length : Int)) = true := decide_eq_true c19
          clear c19
          by_cases c20 : a1 = 0
          ·rw [if_pos c20] at H
           exact absurd H (by simp)
          ·rw [if_neg c20] at H
           have c20b0 : (a1 == 0) = false := beq_eq_false_iff_ne.mpr c20
           have c20b1 : (a1 != 0) = true := bne_iff_ne.mpr c20
           simp only [Option.some.injEq, Prod.mk.injEq] at H
           obtain ⟨rfl, rfl⟩ := H
           obtain ⟨ASz21_0, cSz21_0, HGz21, hgz21, HSz21_0⟩ := HI0.out
           have hcz21_0 := cellS90_0 HGz21
           have hcz21_1 := cellS90_1 HGz21
           have hfz21_1 := blk_frozen HGz21 1
           clear HGz21 hgz21
           have p558 : 0 ≤ ((ji14) : Int) := od
           have q558 : (ji14) < (s0_0.length : Int) := od
           obtain ⟨ad558, e558, hx558_0⟩ := Kd.at_int HSz21_0 (ji14) p558 q558
           cases e558
           replace hx558_0 := pw_cell_below HB.out hx558_0
           replace p558 := eq_true p558
           replace q558 := eq_true q558
           have p559 : 0 ≤ ((ji17) : Int) := od
           have q559 : (ji17) < (s0_0.length : Int) := od
           obtain ⟨ad559, e559, hx559_0⟩ := Kd.at_int HSz21_0 (ji17) p559 q559
           obtain rfl : ad558 = ad559 := (by injection e559)
           replace hx559_0 := pw_cell_below HB.out hx559_0
           replace p559 := eq_true p559
           replace q559 := eq_true q559
           go_wp2
           repeat (go_quiet (fail); try go_wp2)
           go_ret
           exact ⟨by first | rfl | (simp [errW_none, errW_some] <;> rfl) | (simp only [← hji14, ← hji17]; first | rfl | (simp [errW_none, errW_some] <;> rfl)) | (simp [*, errW_none, errW_some] <;> rfl), by exact qi HI0, by exact qb HI0 HB, by exact qk _ _ _ HK⟩
         ·rw [if_neg c19] at H
          exact absurd H (by simp)
        ·rw [if_neg c18] at H
         exact absurd H (by simp)
       ·rw [if_neg c16] at H
        exact absurd H (by simp)
      ·rw [if_neg c15] at H
       exact absurd H (by simp)
set_option maxHeartbeats 8000000 in
set_option maxRecDepth 100000 in
theorem spec_l1DrawBox.calls (k : Nat) (g : Nat) (s0_0 : List Int) (s0_1 : Int) (r1 : Int) (r2 : Int) (r3 : Int) (r4 : Int) (r5 : Int) (r6 : Int) (r7 : Int) (w0 w : World) (hI : IsS90 w0 w g s0_0 s0_1) (hB : Below w0.heap.size w0 w) (h : spec_l1DrawBox.f k s0_0 s0_1 = some (r1, r2, r3, r4, r5, r6, r7)) :
  Calls Try.prog 68 #[.pointer (some ⟨g, 0, none⟩)] w fun e w' => e = .returned (.agg #[.int .i64 r1, .int .i64 r2, .int .i64 r3, .int .i64 r4, .int .i64 r5, .int .i64 r6]) ∧ IsS90 w0 w' g s0_0 r7 ∧ Below w0.heap.size w0 w' ∧ KeepBut w w' g none := by
 have hu26 := Try.underlying26
 have HI0 := Aside0.mk hI
 have HK := ra (KeepBut.refl w g none)
 have HL := Aside0.mk hB.size
 clear hI
 have HW0 := Aside0.mk hB.size
 have HB := Aside0.mk hB
 clear hB
 have H : ((spec_l1Rd_pick.f k s0_0 s0_1 6).bind fun bt561 => ((spec_l1Rd_pick.f k s0_0 bt561.2 6).bind fun bt563 => ((spec_l1Rd_pick.f k s0_0 bt563.2 3).bind fun bt565 => ((spec_l1Rd_pick.f k s0_0 bt565.2 60).bind fun bt567 => ((spec_l1Rd_pick.f k s0_0 bt567.2 3).bind fun bt570 => ((spec_l1Rd_pick.f k s0_0 bt570.2 20).bind fun bt572 => ((spec_l1Rd_pick.f k s0_0 bt572.2 24).bind fun bt574 => (if bt574.1 = 0 then ((spec_l1Rd_pick.f k s0_0 bt574.2 2).bind fun bt576 => (some (wrap64 (15 - bt576.1), bt563.1, bt565.1, wrap64 (bt565.1 + bt570.1), bt567.1, wrap64 (bt567.1 + bt572.1), bt576.2))) else (if bt574.1 = 1 then ((spec_l1Rd_pick.f k s0_0 bt574.2 9).bind fun bt578 => (some (bt561.1, bt563.1, bt565.1, wrap64 (bt565.1 + bt570.1), wrap64 (10000 - bt578.1), 10000, bt578.2))) else (if bt574.1 = 2 then (some (bt561.1, bt563.1, bt565.1, 6, bt567.1, wrap64 (bt567.1 + bt572.1), bt574.2)) else (some (bt561.1, bt563.1, bt565.1, wrap64 (bt565.1 + bt570.1), bt567.1, wrap64 (bt567.1 + bt572.1), bt574.2)))))))))))) = some (r1, r2, r3, r4, r5, r6, r7) := h
 clear h
 obtain ⟨⟨t561, t562⟩, A2, H⟩ := bo H
 try dsimp only at H
 obtain ⟨⟨t563, t564⟩, A3, H⟩ := bo H
 try dsimp only at H
 obtain ⟨⟨t565, t566⟩, A4, H⟩ := bo H
 try dsimp only at H
 obtain ⟨⟨t567, t568⟩, A5, H⟩ := bo H
 try dsimp only at H
 obtain ⟨⟨t570, t571⟩, A6, H⟩ := bo H
 try dsimp only at H
 obtain ⟨⟨t572, t573⟩, A7, H⟩ := bo H
 try dsimp only at H
 obtain ⟨⟨t574, t575⟩, A8, H⟩ := bo H
 try dsimp only at H
 by_cases c9 : t574 = 0
 ·rw [if_pos c9] at H
  have c9b0 : (t574 == 0) = true := beq_iff_eq.mpr c9
  have c9b1 : (t574 != 0) = false := bne_eq_false_iff_eq.mpr c9
  clear c9
  obtain ⟨⟨t576, t577⟩, A10, H⟩ := bo H
  try dsimp only at H
  simp only [Option.some.injEq, Prod.mk.injEq] at H
  obtain ⟨rfl, rfl, rfl, rfl, rfl, rfl, rfl⟩ := H
  go_enter Try.func68, Try.ntmps68
  try go_wp2_with (first | ((with_reducible refine gate_dst (N := 2) rfl ?_); refine be 2 #[.int .i64 0, .int .i64 0, .int .i64 0, .int .i64 0, .int .i64 0, .int .i64 0] 26 ?_; intro gb560 hg w11 hbox hb; have _ := ra (IsS90.below (qi HI0) hb); have _ := kt (qk _ _ _ HK) hb; have _ := ra (below_step (qb HI0 HB) hb); have _ := ra (hbox); have _ := ns hg (qk w _ g HK); have _ := nt hg HW0 (qk w _ g HK); have _ := nl hg (qi HI0); have _ := nr hg (qi HI0); clear HI0 HK HB; rename_i HI0 HK HB BK560 GW560 GE560 NB0_560 NB560_0; clear hb hbox hg) | ((with_reducible refine gate_callee (f := 65) rfl ?_); refine gl (some 5) Try.func65 #[.pointer (some ⟨g, 0, none⟩), .int .i64 6] ?_; (with_reducible refine (spec_l1Rd_pick.calls k g s0_0 s0_1 6 t561 t562 w0 _ ?side1 ?side2 A2.out).mono ?_); (case side1 => exact qi HI0); (case side2 => exact qb HI0 HB); rintro e w12 ⟨rfl, hi, hb, hk⟩; refine ⟨_, rfl, ?_⟩; have _ := kv hk (bk BK560) NB560_0; have _ := ku (qk _ _ _ HK) hk; have _ := ra (hb); have _ := ra (hi); clear BK560 HK HB HI0; rename_i BK560 HK HB HI0; (try clear hb); (try clear hb2); (try clear hk); (try clear hi)) | ((with_reducible refine gate_callee (f := 65) rfl ?_); refine gl (some 7) Try.func65 #[.pointer (some ⟨g, 0, none⟩), .int .i64 6] ?_; (with_reducible refine (spec_l1Rd_pick.calls k g s0_0 t562 6 t563 t564 w0 _ ?side1 ?side2 A3.out).mono ?_); (case side1 => exact qi HI0); (case side2 => exact qb HI0 HB); rintro e w13 ⟨rfl, hi, hb, hk⟩; refine ⟨_, rfl, ?_⟩; have _ := kv hk (bk BK560) NB560_0; have _ := ku (qk _ _ _ HK) hk; have _ := ra (hb); have _ := ra (hi); clear BK560 HK HB HI0; rename_i BK560 HK HB HI0; (try clear hb); (try clear hb2); (try clear hk); (try clear hi)) | ((with_reducible refine gate_callee (f := 65) rfl ?_); refine gl (some 9) Try.func65 #[.pointer (some ⟨g, 0, none⟩), .int .i64 3] ?_; (with_reducible refine (spec_l1Rd_pick.calls k g s0_0 t564 3 t565 t566 w0 _ ?side1 ?side2 A4.out).mono ?_); (case side1 => exact qi HI0); (case side2 => exact qb HI0 HB); rintro e w14 ⟨rfl, hi, hb, hk⟩; refine ⟨_, rfl, ?_⟩; have _ := kv hk (bk BK560) NB560_0; have _ := ku (qk _ _ _ HK) hk; have _ := ra (hb); have _ := ra (hi); clear BK560 HK HB HI0; rename_i BK560 HK HB HI0; (try clear hb); (try clear hb2); (try clear hk); (try clear hi)) | ((with_reducible refine gate_callee (f := 65) rfl ?_); refine gl (some 11) Try.func65 #[.pointer (some ⟨g, 0, none⟩), .int .i64 60] ?_; (with_reducible refine (spec_l1Rd_pick.calls k g s0_0 t566 60 t567 t568 w0 _ ?side1 ?side2 A5.out).mono ?_); (case side1 => exact qi HI0); (case side2 => exact qb HI0 HB); rintro e w15 ⟨rfl, hi, hb, hk⟩; refine ⟨_, rfl, ?_⟩; have _ := kv hk (bk BK560) NB560_0; have _ := ku (qk _ _ _ HK) hk; have _ := ra (hb); have _ := ra (hi); clear BK560 HK HB HI0; rename_i BK560 HK HB HI0; (try clear hb); (try clear hb2); (try clear hk); (try clear hi)) | ((with_reducible refine gate_dst (N := 3) rfl ?_); refine be 3 #[.int .i64 0, .int .i64 0, .int .i64 0, .int .i64 0, .int .i64 0, .int .i64 0] 26 ?_; intro gb569 hg w16 hbox hb; have _ := ra (IsS90.below (qi HI0) hb); have _ := bb (bk BK560) hb; have _ := kt (qk _ _ _ HK) hb; have _ := ra (below_step (qb HI0 HB) hb); have _ := ra (hbox); have _ := ns hg (qk w _ g HK); have _ := nt hg HW0 (qk w _ g HK); have _ := bn hg (bk BK560); have _ := bm hg (bk BK560); have _ := nl hg (qi HI0); have _ := nr hg (qi HI0); clear HI0 BK560 HK HB; rename_i HI0 BK560 HK HB BK569 GW569 GE569 NB560_569 NB569_560 NB0_569 NB569_0; clear hb hbox hg; have hnb17 := NB569_560.out; have hnc17 := NB560_569.out; have hnb18 := NB569_0.out; have hnc18 := NB0_569.out; obtain ⟨hcz19_0, hcz19_1, hcz19_2, hcz19_3, hcz19_4, hcz19_5, hfz19_0, hfz19_1, hfz19_2, hfz19_3, hfz19_4, hfz19_5⟩ := zc6 BK569))
  have n0 : Aside0 (((((((w16.setCell ⟨gb569, 0, none⟩ (.int .i64 t561)).setCell ⟨gb569, 1, none⟩ (.int .i64 t563)).setCell ⟨gb569, 2, none⟩ (.int .i64 t565)).setCell ⟨gb569, 3, none⟩ (.int .i64 0)).setCell ⟨gb569, 4, none⟩ (.int .i64 t567)).setCell ⟨gb569, 5, none⟩ (.int .i64 0)).heap[gb560]? = some (.cells #[.int .i64 0, .int .i64 0, .int .i64 0, .int .i64 0, .int .i64 0, .int .i64 0] 26 (0, 0))) := ⟨bk BK560⟩
  have n1 : Aside0 (((((((w16.setCell ⟨gb569, 0, none⟩ (.int .i64 t561)).setCell ⟨gb569, 1, none⟩ (.int .i64 t563)).setCell ⟨gb569, 2, none⟩ (.int .i64 t565)).setCell ⟨gb569, 3, none⟩ (.int .i64 0)).setCell ⟨gb569, 4, none⟩ (.int .i64 t567)).setCell ⟨gb569, 5, none⟩ (.int .i64 0)).heap[gb569]? = some (.cells #[.int .i64 t561, .int .i64 t563, .int .i64 t565, .int .i64 0, .int .i64 t567, .int .i64 0] 26 (0, 0))) := ⟨bp BK569⟩
  have n2 : Aside0 (IsS90 w0 ((((((w16.setCell ⟨gb569, 0, none⟩ (.int .i64 t561)).setCell ⟨gb569, 1, none⟩ (.int .i64 t563)).setCell ⟨gb569, 2, none⟩ (.int .i64 t565)).setCell ⟨gb569, 3, none⟩ (.int .i64 0)).setCell ⟨gb569, 4, none⟩ (.int .i64 t567)).setCell ⟨gb569, 5, none⟩ (.int .i64 0)) g s0_0 t568) := ⟨by exact qi HI0⟩
  have n3 : Aside0 (KeepBut w ((((((w16.setCell ⟨gb569, 0, none⟩ (.int .i64 t561)).setCell ⟨gb569, 1, none⟩ (.int .i64 t563)).setCell ⟨gb569, 2, none⟩ (.int .i64 t565)).setCell ⟨gb569, 3, none⟩ (.int .i64 0)).setCell ⟨gb569, 4, none⟩ (.int .i64 t567)).setCell ⟨gb569, 5, none⟩ (.int .i64 0)) g none) := ⟨by exact qk _ _ _ HK⟩
  have n4 : Aside0 (Below w0.heap.size w0 ((((((w16.setCell ⟨gb569, 0, none⟩ (.int .i64 t561)).setCell ⟨gb569, 1, none⟩ (.int .i64 t563)).setCell ⟨gb569, 2, none⟩ (.int .i64 t565)).setCell ⟨gb569, 3, none⟩ (.int .i64 0)).setCell ⟨gb569, 4, none⟩ (.int .i64 t567)).setCell ⟨gb569, 5, none⟩ (.int .i64 0))) := ⟨by exact qb HI0 HB⟩
  (try clear BK560)
  (try clear BK569)
  (try clear HI0)
  (try clear HK)
  (try clear HB)
  generalize ((((((w16.setCell ⟨gb569, 0, none⟩ (.int .i64 t561)).setCell ⟨gb569, 1, none⟩ (.int .i64 t563)).setCell ⟨gb569, 2, none⟩ (.int .i64 t565)).setCell ⟨gb569, 3, none⟩ (.int .i64 0)).setCell ⟨gb569, 4, none⟩ (.int .i64 t567)).setCell ⟨gb569, 5, none⟩ (.int .i64 0)) = w20 at n0 n1 n2 n3 n4 ⊢
  have BK560 := n0
  have BK569 := n1
  have HI0 := n2
  have HK := n3
  have HB := n4
  clear n0 n1 n2 n3 n4
  have _ := ra (blk_drew BK560.out)
  have _ := ra (blk_drew BK569.out)
  have _ := ra (IsS90.drew HI0.out)
  have _ := ra (keep_drew HK.out)
  have _ := ra (below_drew1 HB.out)
  clear BK560 BK569 HI0 HK HB
  rename_i BK560 BK569 HI0 HK HB
  refine start_ (n := 7) (S := fun w' => w'.cell? ⟨gb569, 0, none⟩ = some (.int .i64 t561) ∧ w'.cell? ⟨gb569, 1, none⟩ = some (.int .i64 t563) ∧ w'.cell? ⟨gb569, 2, none⟩ = some (.int .i64 t565) ∧ w'.cell? ⟨gb569, 3, none⟩ = some (.int .i64 0) ∧ w'.cell? ⟨gb569, 4, none⟩ = some (.int .i64 t567) ∧ w'.cell? ⟨gb569, 5, none⟩ = some (.int .i64 0)) (ds := [6]) #[false, false, false, false, false, false, false] (by kernel_rfl) rfl rfl ⟨(blk_cell BK569.out 0).trans rfl, (blk_cell BK569.out 1).trans rfl, (blk_cell BK569.out 2).trans rfl, (blk_cell BK569.out 3).trans rfl, (blk_cell BK569.out 4).trans rfl, (blk_cell BK569.out 5).trans rfl⟩ (fun hHeld => ?_)
  generalize w20.drew = w21 at BK560 BK569 HI0 HK HB hHeld ⊢
  refine pu 0 13 (bl 7 1) ?_
  refine pu 2 15 (bl 7 5) ?_
  refine tk 1 14 (bl 7 7) ?_ hHeld
  refine oe 3 16 (bl 7 15) (fun K hK => ?_)
  refine gs Try.func65 #[.pointer (some ⟨g, 0, none⟩), .int .i64 3] ?_
  with_reducible refine (spec_l1Rd_pick.calls k g s0_0 t568 3 t570 t571 w0 _ ?side1 ?side2 A6.out).mono ?_
  (case side1 => exact qi HI0)
  (case side2 => exact qb HI0 HB)
  rintro e w22 ⟨rfl, hi, hb, hk⟩
  refine ⟨_, rfl, ?_⟩
  have _ := kv hk (bk BK560) NB560_0
  have _ := kv hk (bk BK569) NB569_0
  have _ := ku (qk _ _ _ HK) hk
  have _ := ra (hb)
  have _ := ra (hi)
  clear BK560 BK569 HK HB HI0
  rename_i BK560 BK569 HK HB HI0
  (try clear hb)
  (try clear hb2)
  (try clear hk)
  (try clear hi)
  refine hK.out _ _ ⟨(blk_cell BK569.out 0).trans rfl, (blk_cell BK569.out 1).trans rfl, (blk_cell BK569.out 2).trans rfl, (blk_cell BK569.out 3).trans rfl, (blk_cell BK569.out 4).trans rfl, (blk_cell BK569.out 5).trans rfl⟩ (fun hHeld => ?_)
  clear hK K
  refine nm 16 ?_
  refine pu 4 17 (bl 7 31) ?_
  refine pu 5 18 (bl 7 63) ?_
  refine last_ (i := 6) (N := none) #[true, true, true, true, true, true, true] rfl rfl (by kernel_rfl) (by decide) (fun K hK => ?_)
  have hs23 : w22.cell? ⟨gb569, 3, none⟩ = some (.int .i64 0) := (blk_cell BK569.out 3).trans rfl
  have hfs23 := blk_frozen BK569.out 3
  have hns23_0 := NB560_569.out
  have hms23_0 := NB569_560.out
  refine skip_ (w1 := ?_) (by rfl) rfl ?_ ?_
  rotate_left
  ·go_simp
   rfl
  refine hK.out _ _ ?_
  clear hK K
  refine done_ (by kernel_rfl) ?_
  try go_wp2
  have n0 : Aside0 ((w22.setCell ⟨gb569, 3, none⟩ (.int .i64 (wrap64 (t565 + t570)))).heap[gb560]? = some (.cells #[.int .i64 0, .int .i64 0, .int .i64 0, .int .i64 0, .int .i64 0, .int .i64 0] 26 (0, 0))) := ⟨bk BK560⟩
  have n1 : Aside0 ((w22.setCell ⟨gb569, 3, none⟩ (.int .i64 (wrap64 (t565 + t570)))).heap[gb569]? = some (.cells #[.int .i64 t561, .int .i64 t563, .int .i64 t565, .int .i64 (wrap64 (t565 + t570)), .int .i64 t567, .int .i64 0] 26 (0, 0))) := ⟨bp BK569⟩
  have n2 : Aside0 (IsS90 w0 (w22.setCell ⟨gb569, 3, none⟩ (.int .i64 (wrap64 (t565 + t570)))) g s0_0 t571) := ⟨by exact qi HI0⟩
  have n3 : Aside0 (KeepBut w (w22.setCell ⟨gb569, 3, none⟩ (.int .i64 (wrap64 (t565 + t570)))) g none) := ⟨by exact qk _ _ _ HK⟩
  have n4 : Aside0 (Below w0.heap.size w0 (w22.setCell ⟨gb569, 3, none⟩ (.int .i64 (wrap64 (t565 + t570))))) := ⟨by exact qb HI0 HB⟩
  (try clear BK560)
  (try clear BK569)
  (try clear HI0)
  (try clear HK)
  (try clear HB)
  generalize (w22.setCell ⟨gb569, 3, none⟩ (.int .i64 (wrap64 (t565 + t570)))) = w24 at n0 n1 n2 n3 n4 ⊢
  have BK560 := n0
  have BK569 := n1
  have HI0 := n2
  have HK := n3
  have HB := n4
  clear n0 n1 n2 n3 n4
  have _ := ra (blk_drew BK560.out)
  have _ := ra (blk_drew BK569.out)
  have _ := ra (IsS90.drew HI0.out)
  have _ := ra (keep_drew HK.out)
  have _ := ra (below_drew1 HB.out)
  clear BK560 BK569 HI0 HK HB
  rename_i BK560 BK569 HI0 HK HB
  refine start_ (n := 7) (S := fun w' => w'.cell? ⟨gb569, 0, none⟩ = some (.int .i64 t561) ∧ w'.cell? ⟨gb569, 1, none⟩ = some (.int .i64 t563) ∧ w'.cell? ⟨gb569, 2, none⟩ = some (.int .i64 t565) ∧ w'.cell? ⟨gb569, 3, none⟩ = some (.int .i64 (wrap64 (t565 + t570))) ∧ w'.cell? ⟨gb569, 4, none⟩ = some (.int .i64 t567) ∧ w'.cell? ⟨gb569, 5, none⟩ = some (.int .i64 0)) (ds := [6]) #[false, false, false, false, false, false, false] (by kernel_rfl) rfl rfl ⟨(blk_cell BK569.out 0).trans rfl, (blk_cell BK569.out 1).trans rfl, (blk_cell BK569.out 2).trans rfl, (blk_cell BK569.out 3).trans rfl, (blk_cell BK569.out 4).trans rfl, (blk_cell BK569.out 5).trans rfl⟩ (fun hHeld => ?_)
  generalize w24.drew = w25 at BK560 BK569 HI0 HK HB hHeld ⊢
  refine pu 0 19 (bl 7 1) ?_
  refine pu 2 21 (bl 7 5) ?_
  refine tk 1 20 (bl 7 7) ?_ hHeld
  refine oe 3 22 (bl 7 15) (fun K hK => ?_)
  refine gs Try.func65 #[.pointer (some ⟨g, 0, none⟩), .int .i64 20] ?_
  with_reducible refine (spec_l1Rd_pick.calls k g s0_0 t571 20 t572 t573 w0 _ ?side1 ?side2 A7.out).mono ?_
  (case side1 => exact qi HI0)
  (case side2 => exact qb HI0 HB)
  rintro e w26 ⟨rfl, hi, hb, hk⟩
  refine ⟨_, rfl, ?_⟩
  have _ := kv hk (bk BK560) NB560_0
  have _ := kv hk (bk BK569) NB569_0
  have _ := ku (qk _ _ _ HK) hk
  have _ := ra (hb)
  have _ := ra (hi)
  clear BK560 BK569 HK HB HI0
  rename_i BK560 BK569 HK HB HI0
  (try clear hb)
  (try clear hb2)
  (try clear hk)
  (try clear hi)
  refine hK.out _ _ ⟨(blk_cell BK569.out 0).trans rfl, (blk_cell BK569.out 1).trans rfl, (blk_cell BK569.out 2).trans rfl, (blk_cell BK569.out 3).trans rfl, (blk_cell BK569.out 4).trans rfl, (blk_cell BK569.out 5).trans rfl⟩ (fun hHeld => ?_)
  clear hK K
  refine nm 22 ?_
  refine pu 4 23 (bl 7 31) ?_
  refine pu 5 24 (bl 7 63) ?_
  refine last_ (i := 6) (N := none) #[true, true, true, true, true, true, true] rfl rfl (by kernel_rfl) (by decide) (fun K hK => ?_)
  have hs27 : w26.cell? ⟨gb569, 5, none⟩ = some (.int .i64 0) := (blk_cell BK569.out 5).trans rfl
  have hfs27 := blk_frozen BK569.out 5
  have hns27_0 := NB560_569.out
  have hms27_0 := NB569_560.out
  refine skip_ (w1 := ?_) (by rfl) rfl ?_ ?_
  rotate_left
  ·go_simp
   rfl
  refine hK.out _ _ ?_
  clear hK K
  refine done_ (by kernel_rfl) ?_
  try go_wp2_with (first | ((with_reducible refine gate_callee (f := 65) rfl ?_); refine gl (some 26) Try.func65 #[.pointer (some ⟨g, 0, none⟩), .int .i64 24] ?_; (with_reducible refine (spec_l1Rd_pick.calls k g s0_0 t573 24 t574 t575 w0 _ ?side1 ?side2 A8.out).mono ?_); (case side1 => exact qi HI0); (case side2 => exact qb HI0 HB); rintro e w28 ⟨rfl, hi, hb, hk⟩; refine ⟨_, rfl, ?_⟩; have _ := kv hk (bk BK560) NB560_0; have _ := ra (KeepBut.blk hk (g' := gb569) (o := .cells #[.int .i64 t561, .int .i64 t563, .int .i64 t565, .int .i64 (wrap64 (t565 + t570)), .int .i64 t567, .int .i64 (wrap64 (t567 + t572))] 26 (0, 0)) (bp BK569) NB569_0.out (by simp)); have _ := ku (qk _ _ _ HK) hk; have _ := ra (hb); have _ := ra (hi); clear BK560 BK569 HK HB HI0; rename_i BK560 BK569 HK HB HI0; (try clear hb); (try clear hb2); (try clear hk); (try clear hi)) | ((with_reducible refine gate_callee (f := 65) rfl ?_); refine gl (some 30) Try.func65 #[.pointer (some ⟨g, 0, none⟩), .int .i64 2] ?_; (with_reducible refine (spec_l1Rd_pick.calls k g s0_0 t575 2 t576 t577 w0 _ ?side1 ?side2 A10.out).mono ?_); (case side1 => exact qi HI0); (case side2 => exact qb HI0 HB); rintro e w29 ⟨rfl, hi, hb, hk⟩; refine ⟨_, rfl, ?_⟩; have _ := kv hk (bk BK560) NB560_0; have _ := kv hk (bk BK569) NB569_0; have _ := ku (qk _ _ _ HK) hk; have _ := ra (hb); have _ := ra (hi); clear BK560 BK569 HK HB HI0; rename_i BK560 BK569 HK HB HI0; (try clear hb); (try clear hb2); (try clear hk); (try clear hi); obtain ⟨hcz30_0, hcz30_1, hcz30_2, hcz30_3, hcz30_4, hcz30_5, hfz30_0, hfz30_1, hfz30_2, hfz30_3, hfz30_4, hfz30_5⟩ := zc6 BK569; have hnb31 := NB560_0.out; have hnc31 := NB0_560.out; obtain ⟨hcz32_0, hcz32_1, hcz32_2, hcz32_3, hcz32_4, hcz32_5, hfz32_0, hfz32_1, hfz32_2, hfz32_3, hfz32_4, hfz32_5⟩ := zc6 BK560))
  refine bodyPost_ret (results_cell_row rfl _ _ gb560 26 #[.int .i64 (wrap64 (15 - t576)), .int .i64 t563, .int .i64 t565, .int .i64 (wrap64 (t565 + t570)), .int .i64 t567, .int .i64 (wrap64 (t567 + t572))] (0, 0) _ rfl (bp BK560) Try.underlying26 rfl (by kernel_rfl)) rfl ?_
  exact ⟨re, by exact qi HI0, by exact qb HI0 HB, by exact qk _ _ _ HK⟩
 ·rw [if_neg c9] at H
  have c9b0 : (t574 == 0) = false := beq_eq_false_iff_ne.mpr c9
  have c9b1 : (t574 != 0) = true := bne_iff_ne.mpr c9
  by_cases c33 : t574 = 1
  ·rw [if_pos c33] at H
   have c33b0 : (t574 == 1) = true := beq_iff_eq.mpr c33
   have c33b1 : (t574 != 1) = false := bne_eq_false_iff_eq.mpr c33
   clear c33
   obtain ⟨⟨t578, t579⟩, A34, H⟩ := bo H
   try dsimp only at H
   simp only [Option.some.injEq, Prod.mk.injEq] at H
   obtain ⟨rfl, rfl, rfl, rfl, rfl, rfl, rfl⟩ := H
   go_enter Try.func68, Try.ntmps68
   try go_wp2_with (first | ((with_reducible refine gate_dst (N := 2) rfl ?_); refine be 2 #[.int .i64 0, .int .i64 0, .int .i64 0, .int .i64 0, .int .i64 0, .int .i64 0] 26 ?_; intro gb560 hg w35 hbox hb; have _ := ra (IsS90.below (qi HI0) hb); have _ := kt (qk _ _ _ HK) hb; have _ := ra (below_step (qb HI0 HB) hb); have _ := ra (hbox); have _ := ns hg (qk w _ g HK); have _ := nt hg HW0 (qk w _ g HK); have _ := nl hg (qi HI0); have _ := nr hg (qi HI0); clear HI0 HK HB; rename_i HI0 HK HB BK560 GW560 GE560 NB0_560 NB560_0; clear hb hbox hg) | ((with_reducible refine gate_callee (f := 65) rfl ?_); refine gl (some 5) Try.func65 #[.pointer (some ⟨g, 0, none⟩), .int .i64 6] ?_; (with_reducible refine (spec_l1Rd_pick.calls k g s0_0 s0_1 6 t561 t562 w0 _ ?side1 ?side2 A2.out).mono ?_); (case side1 => exact qi HI0); (case side2 => exact qb HI0 HB); rintro e w36 ⟨rfl, hi, hb, hk⟩; refine ⟨_, rfl, ?_⟩; have _ := kv hk (bk BK560) NB560_0; have _ := ku (qk _ _ _ HK) hk; have _ := ra (hb); have _ := ra (hi); clear BK560 HK HB HI0; rename_i BK560 HK HB HI0; (try clear hb); (try clear hb2); (try clear hk); (try clear hi)) | ((with_reducible refine gate_callee (f := 65) rfl ?_); refine gl (some 7) Try.func65 #[.pointer (some ⟨g, 0, none⟩), .int .i64 6] ?_; (with_reducible refine (spec_l1Rd_pick.calls k g s0_0 t562 6 t563 t564 w0 _ ?side1 ?side2 A3.out).mono ?_); (case side1 => exact qi HI0); (case side2 => exact qb HI0 HB); rintro e w37 ⟨rfl, hi, hb, hk⟩; refine ⟨_, rfl, ?_⟩; have _ := kv hk (bk BK560) NB560_0; have _ := ku (qk _ _ _ HK) hk; have _ := ra (hb); have _ := ra (hi); clear BK560 HK HB HI0; rename_i BK560 HK HB HI0; (try clear hb); (try clear hb2); (try clear hk); (try clear hi)) | ((with_reducible refine gate_callee (f := 65) rfl ?_); refine gl (some 9) Try.func65 #[.pointer (some ⟨g, 0, none⟩), .int .i64 3] ?_; (with_reducible refine (spec_l1Rd_pick.calls k g s0_0 t564 3 t565 t566 w0 _ ?side1 ?side2 A4.out).mono ?_); (case side1 => exact qi HI0); (case side2 => exact qb HI0 HB); rintro e w38 ⟨rfl, hi, hb, hk⟩; refine ⟨_, rfl, ?_⟩; have _ := kv hk (bk BK560) NB560_0; have _ := ku (qk _ _ _ HK) hk; have _ := ra (hb); have _ := ra (hi); clear BK560 HK HB HI0; rename_i BK560 HK HB HI0; (try clear hb); (try clear hb2); (try clear hk); (try clear hi)) | ((with_reducible refine gate_callee (f := 65) rfl ?_); refine gl (some 11) Try.func65 #[.pointer (some ⟨g, 0, none⟩), .int .i64 60] ?_; (with_reducible refine (spec_l1Rd_pick.calls k g s0_0 t566 60 t567 t568 w0 _ ?side1 ?side2 A5.out).mono ?_); (case side1 => exact qi HI0); (case side2 => exact qb HI0 HB); rintro e w39 ⟨rfl, hi, hb, hk⟩; refine ⟨_, rfl, ?_⟩; have _ := kv hk (bk BK560) NB560_0; have _ := ku (qk _ _ _ HK) hk; have _ := ra (hb); have _ := ra (hi); clear BK560 HK HB HI0; rename_i BK560 HK HB HI0; (try clear hb); (try clear hb2); (try clear hk); (try clear hi)) | ((with_reducible refine gate_dst (N := 3) rfl ?_); refine be 3 #[.int .i64 0, .int .i64 0, .int .i64 0, .int .i64 0, .int .i64 0, .int .i64 0] 26 ?_; intro gb569 hg w40 hbox hb; have _ := ra (IsS90.below (qi HI0) hb); have _ := bb (bk BK560) hb; have _ := kt (qk _ _ _ HK) hb; have _ := ra (below_step (qb HI0 HB) hb); have _ := ra (hbox); have _ := ns hg (qk w _ g HK); have _ := nt hg HW0 (qk w _ g HK); have _ := bn hg (bk BK560); have _ := bm hg (bk BK560); have _ := nl hg (qi HI0); have _ := nr hg (qi HI0); clear HI0 BK560 HK HB; rename_i HI0 BK560 HK HB BK569 GW569 GE569 NB560_569 NB569_560 NB0_569 NB569_0; clear hb hbox hg; have hnb41 := NB569_560.out; have hnc41 := NB560_569.out; have hnb42 := NB569_0.out; have hnc42 := NB0_569.out; obtain ⟨hcz43_0, hcz43_1, hcz43_2, hcz43_3, hcz43_4, hcz43_5, hfz43_0, hfz43_1, hfz43_2, hfz43_3, hfz43_4, hfz43_5⟩ := zc6 BK569))
   have n0 : Aside0 (((((((w40.setCell ⟨gb569, 0, none⟩ (.int .i64 t561)).setCell ⟨gb569, 1, none⟩ (.int .i64 t563)).setCell ⟨gb569, 2, none⟩ (.int .i64 t565)).setCell ⟨gb569, 3, none⟩ (.int .i64 0)).setCell ⟨gb569, 4, none⟩ (.int .i64 t567)).setCell ⟨gb569, 5, none⟩ (.int .i64 0)).heap[gb560]? = some (.cells #[.int .i64 0, .int .i64 0, .int .i64 0, .int .i64 0, .int .i64 0, .int .i64 0] 26 (0, 0))) := ⟨bk BK560⟩
   have n1 : Aside0 (((((((w40.setCell ⟨gb569, 0, none⟩ (.int .i64 t561)).setCell ⟨gb569, 1, none⟩ (.int .i64 t563)).setCell ⟨gb569, 2, none⟩ (.int .i64 t565)).setCell ⟨gb569, 3, none⟩ (.int .i64 0)).setCell ⟨gb569, 4, none⟩ (.int .i64 t567)).setCell ⟨gb569, 5, none⟩ (.int .i64 0)).heap[gb569]? = some (.cells #[.int .i64 t561, .int .i64 t563, .int .i64 t565, .int .i64 0, .int .i64 t567, .int .i64 0] 26 (0, 0))) := ⟨bp BK569⟩
   have n2 : Aside0 (IsS90 w0 ((((((w40.setCell ⟨gb569, 0, none⟩ (.int .i64 t561)).setCell ⟨gb569, 1, none⟩ (.int .i64 t563)).setCell ⟨gb569, 2, none⟩ (.int .i64 t565)).setCell ⟨gb569, 3, none⟩ (.int .i64 0)).setCell ⟨gb569, 4, none⟩ (.int .i64 t567)).setCell ⟨gb569, 5, none⟩ (.int .i64 0)) g s0_0 t568) := ⟨by exact qi HI0⟩
   have n3 : Aside0 (KeepBut w ((((((w40.setCell ⟨gb569, 0, none⟩ (.int .i64 t561)).setCell ⟨gb569, 1, none⟩ (.int .i64 t563)).setCell ⟨gb569, 2, none⟩ (.int .i64 t565)).setCell ⟨gb569, 3, none⟩ (.int .i64 0)).setCell ⟨gb569, 4, none⟩ (.int .i64 t567)).setCell ⟨gb569, 5, none⟩ (.int .i64 0)) g none) := ⟨by exact qk _ _ _ HK⟩
   have n4 : Aside0 (Below w0.heap.size w0 ((((((w40.setCell ⟨gb569, 0, none⟩ (.int .i64 t561)).setCell ⟨gb569, 1, none⟩ (.int .i64 t563)).setCell ⟨gb569, 2, none⟩ (.int .i64 t565)).setCell ⟨gb569, 3, none⟩ (.int .i64 0)).setCell ⟨gb569, 4, none⟩ (.int .i64 t567)).setCell ⟨gb569, 5, none⟩ (.int .i64 0))) := ⟨by exact qb HI0 HB⟩
   (try clear BK560)
   (try clear BK569)
   (try clear HI0)
   (try clear HK)
   (try clear HB)
   generalize ((((((w40.setCell ⟨gb569, 0, none⟩ (.int .i64 t561)).setCell ⟨gb569, 1, none⟩ (.int .i64 t563)).setCell ⟨gb569, 2, none⟩ (.int .i64 t565)).setCell ⟨gb569, 3, none⟩ (.int .i64 0)).setCell ⟨gb569, 4, none⟩ (.int .i64 t567)).setCell ⟨gb569, 5, none⟩ (.int .i64 0)) = w44 at n0 n1 n2 n3 n4 ⊢
   have BK560 := n0
   have BK569 := n1
   have HI0 := n2
   have HK := n3
   have HB := n4
   clear n0 n1 n2 n3 n4
   have _ := ra (blk_drew BK560.out)
   have _ := ra (blk_drew BK569.out)
   have _ := ra (IsS90.drew HI0.out)
   have _ := ra (keep_drew HK.out)
   have _ := ra (below_drew1 HB.out)
   clear BK560 BK569 HI0 HK HB
   rename_i BK560 BK569 HI0 HK HB
   refine start_ (n := 7) (S := fun w' => w'.cell? ⟨gb569, 0, none⟩ = some (.int .i64 t561) ∧ w'.cell? ⟨gb569, 1, none⟩ = some (.int .i64 t563) ∧ w'.cell? ⟨gb569, 2, none⟩ = some (.int .i64 t565) ∧ w'.cell? ⟨gb569, 3, none⟩ = some (.int .i64 0) ∧ w'.cell? ⟨gb569, 4, none⟩ = some (.int .i64 t567) ∧ w'.cell? ⟨gb569, 5, none⟩ = some (.int .i64 0)) (ds := [6]) #[false, false, false, false, false, false, false] (by kernel_rfl) rfl rfl ⟨(blk_cell BK569.out 0).trans rfl, (blk_cell BK569.out 1).trans rfl, (blk_cell BK569.out 2).trans rfl, (blk_cell BK569.out 3).trans rfl, (blk_cell BK569.out 4).trans rfl, (blk_cell BK569.out 5).trans rfl⟩ (fun hHeld => ?_)
   generalize w44.drew = w45 at BK560 BK569 HI0 HK HB hHeld ⊢
   refine pu 0 13 (bl 7 1) ?_
   refine pu 2 15 (bl 7 5) ?_
   refine tk 1 14 (bl 7 7) ?_ hHeld
   refine oe 3 16 (bl 7 15) (fun K hK => ?_)
   refine gs Try.func65 #[.pointer (some ⟨g, 0, none⟩), .int .i64 3] ?_
   with_reducible refine (spec_l1Rd_pick.calls k g s0_0 t568 3 t570 t571 w0 _ ?side1 ?side2 A6.out).mono ?_
   (case side1 => exact qi HI0)
   (case side2 => exact qb HI0 HB)
   rintro e w46 ⟨rfl, hi, hb, hk⟩
   refine ⟨_, rfl, ?_⟩
   have _ := kv hk (bk BK560) NB560_0
   have _ := kv hk (bk BK569) NB569_0
   have _ := ku (qk _ _ _ HK) hk
   have _ := ra (hb)
   have _ := ra (hi)
   clear BK560 BK569 HK HB HI0
   rename_i BK560 BK569 HK HB HI0
   (try clear hb)
   (try clear hb2)
   (try clear hk)
   (try clear hi)
   refine hK.out _ _ ⟨(blk_cell BK569.out 0).trans rfl, (blk_cell BK569.out 1).trans rfl, (blk_cell BK569.out 2).trans rfl, (blk_cell BK569.out 3).trans rfl, (blk_cell BK569.out 4).trans rfl, (blk_cell BK569.out 5).trans rfl⟩ (fun hHeld => ?_)
   clear hK K
   refine nm 16 ?_
   refine pu 4 17 (bl 7 31) ?_
   refine pu 5 18 (bl 7 63) ?_
   refine last_ (i := 6) (N := none) #[true, true, true, true, true, true, true] rfl rfl (by kernel_rfl) (by decide) (fun K hK => ?_)
   have hs47 : w46.cell? ⟨gb569, 3, none⟩ = some (.int .i64 0) := (blk_cell BK569.out 3).trans rfl
   have hfs47 := blk_frozen BK569.out 3
   have hns47_0 := NB560_569.out
   have hms47_0 := NB569_560.out
   refine skip_ (w1 := ?_) (by rfl) rfl ?_ ?_
   rotate_left
   ·go_simp
    rfl
   refine hK.out _ _ ?_
   clear hK K
   refine done_ (by kernel_rfl) ?_
   try go_wp2
   have n0 : Aside0 ((w46.setCell ⟨gb569, 3, none⟩ (.int .i64 (wrap64 (t565 + t570)))).heap[gb560]? = some (.cells #[.int .i64 0, .int .i64 0, .int .i64 0, .int .i64 0, .int .i64 0, .int .i64 0] 26 (0, 0))) := ⟨bk BK560⟩
   have n1 : Aside0 ((w46.setCell ⟨gb569, 3, none⟩ (.int .i64 (wrap64 (t565 + t570)))).heap[gb569]? = some (.cells #[.int .i64 t561, .int .i64 t563, .int .i64 t565, .int .i64 (wrap64 (t565 + t570)), .int .i64 t567, .int .i64 0] 26 (0, 0))) := ⟨bp BK569⟩
   have n2 : Aside0 (IsS90 w0 (w46.setCell ⟨gb569, 3, none⟩ (.int .i64 (wrap64 (t565 + t570)))) g s0_0 t571) := ⟨by exact qi HI0⟩
   have n3 : Aside0 (KeepBut w (w46.setCell ⟨gb569, 3, none⟩ (.int .i64 (wrap64 (t565 + t570)))) g none) := ⟨by exact qk _ _ _ HK⟩
   have n4 : Aside0 (Below w0.heap.size w0 (w46.setCell ⟨gb569, 3, none⟩ (.int .i64 (wrap64 (t565 + t570))))) := ⟨by exact qb HI0 HB⟩
   (try clear BK560)
   (try clear BK569)
   (try clear HI0)
   (try clear HK)
   (try clear HB)
   generalize (w46.setCell ⟨gb569, 3, none⟩ (.int .i64 (wrap64 (t565 + t570)))) = w48 at n0 n1 n2 n3 n4 ⊢
   have BK560 := n0
   have BK569 := n1
   have HI0 := n2
   have HK := n3
   have HB := n4
   clear n0 n1 n2 n3 n4
   have _ := ra (blk_drew BK560.out)
   have _ := ra (blk_drew BK569.out)
   have _ := ra (IsS90.drew HI0.out)
   have _ := ra (keep_drew HK.out)
   have _ := ra (below_drew1 HB.out)
   clear BK560 BK569 HI0 HK HB
   rename_i BK560 BK569 HI0 HK HB
   refine start_ (n := 7) (S := fun w' => w'.cell? ⟨gb569, 0, none⟩ = some (.int .i64 t561) ∧ w'.cell? ⟨gb569, 1, none⟩ = some (.int .i64 t563) ∧ w'.cell? ⟨gb569, 2, none⟩ = some (.int .i64 t565) ∧ w'.cell? ⟨gb569, 3, none⟩ = some (.int .i64 (wrap64 (t565 + t570))) ∧ w'.cell? ⟨gb569, 4, none⟩ = some (.int .i64 t567) ∧ w'.cell? ⟨gb569, 5, none⟩ = some (.int .i64 0)) (ds := [6]) #[false, false, false, false, false, false, false] (by kernel_rfl) rfl rfl ⟨(blk_cell BK569.out 0).trans rfl, (blk_cell BK569.out 1).trans rfl, (blk_cell BK569.out 2).trans rfl, (blk_cell BK569.out 3).trans rfl, (blk_cell BK569.out 4).trans rfl, (blk_cell BK569.out 5).trans rfl⟩ (fun hHeld => ?_)
   generalize w48.drew = w49 at BK560 BK569 HI0 HK HB hHeld ⊢
   refine pu 0 19 (bl 7 1) ?_
   refine pu 2 21 (bl 7 5) ?_
   refine tk 1 20 (bl 7 7) ?_ hHeld
   refine oe 3 22 (bl 7 15) (fun K hK => ?_)
   refine gs Try.func65 #[.pointer (some ⟨g, 0, none⟩), .int .i64 20] ?_
   with_reducible refine (spec_l1Rd_pick.calls k g s0_0 t571 20 t572 t573 w0 _ ?side1 ?side2 A7.out).mono ?_
   (case side1 => exact qi HI0)
   (case side2 => exact qb HI0 HB)
   rintro e w50 ⟨rfl, hi, hb, hk⟩
   refine ⟨_, rfl, ?_⟩
   have _ := kv hk (bk BK560) NB560_0
   have _ := kv hk (bk BK569) NB569_0
   have _ := ku (qk _ _ _ HK) hk
   have _ := ra (hb)
   have _ := ra (hi)
   clear BK560 BK569 HK HB HI0
   rename_i BK560 BK569 HK HB HI0
   (try clear hb)
   (try clear hb2)
   (try clear hk)
   (try clear hi)
   refine hK.out _ _ ⟨(blk_cell BK569.out 0).trans rfl, (blk_cell BK569.out 1).trans rfl, (blk_cell BK569.out 2).trans rfl, (blk_cell BK569.out 3).trans rfl, (blk_cell BK569.out 4).trans rfl, (blk_cell BK569.out 5).trans rfl⟩ (fun hHeld => ?_)
   clear hK K
   refine nm 22 ?_
   refine pu 4 23 (bl 7 31) ?_
   refine pu 5 24 (bl 7 63) ?_
   refine last_ (i := 6) (N := none) #[true, true, true, true, true, true, true] rfl rfl (by kernel_rfl) (by decide) (fun K hK => ?_)
   have hs51 : w50.cell? ⟨gb569, 5, none⟩ = some (.int .i64 0) := (blk_cell BK569.out 5).trans rfl
   have hfs51 := blk_frozen BK569.out 5
   have hns51_0 := NB560_569.out
   have hms51_0 := NB569_560.out
   refine skip_ (w1 := ?_) (by rfl) rfl ?_ ?_
   rotate_left
   ·go_simp
    rfl
   refine hK.out _ _ ?_
   clear hK K
   refine done_ (by kernel_rfl) ?_
   try go_wp2_with (first | ((with_reducible refine gate_callee (f := 65) rfl ?_); refine gl (some 26) Try.func65 #[.pointer (some ⟨g, 0, none⟩), .int .i64 24] ?_; (with_reducible refine (spec_l1Rd_pick.calls k g s0_0 t573 24 t574 t575 w0 _ ?side1 ?side2 A8.out).mono ?_); (case side1 => exact qi HI0); (case side2 => exact qb HI0 HB); rintro e w52 ⟨rfl, hi, hb, hk⟩; refine ⟨_, rfl, ?_⟩; have _ := kv hk (bk BK560) NB560_0; have _ := ra (KeepBut.blk hk (g' := gb569) (o := .cells #[.int .i64 t561, .int .i64 t563, .int .i64 t565, .int .i64 (wrap64 (t565 + t570)), .int .i64 t567, .int .i64 (wrap64 (t567 + t572))] 26 (0, 0)) (bp BK569) NB569_0.out (by simp)); have _ := ku (qk _ _ _ HK) hk; have _ := ra (hb); have _ := ra (hi); clear BK560 BK569 HK HB HI0; rename_i BK560 BK569 HK HB HI0; (try clear hb); (try clear hb2); (try clear hk); (try clear hi); obtain ⟨hcz53_0, hcz53_1, hcz53_2, hcz53_3, hcz53_4, hcz53_5, hfz53_0, hfz53_1, hfz53_2, hfz53_3, hfz53_4, hfz53_5⟩ := zc6 BK569) | ((with_reducible refine gate_callee (f := 65) rfl ?_); refine gl (some 37) Try.func65 #[.pointer (some ⟨g, 0, none⟩), .int .i64 9] ?_; (with_reducible refine (spec_l1Rd_pick.calls k g s0_0 t575 9 t578 t579 w0 _ ?side1 ?side2 A34.out).mono ?_); (case side1 => exact qi HI0); (case side2 => exact qb HI0 HB); rintro e w54 ⟨rfl, hi, hb, hk⟩; refine ⟨_, rfl, ?_⟩; have _ := kv hk (bk BK560) NB560_0; have _ := ra (KeepBut.blk hk (g' := gb569) (o := .cells #[.int .i64 t561, .int .i64 t563, .int .i64 t565, .int .i64 (wrap64 (t565 + t570)), .int .i64 t567, .int .i64 10000] 26 (0, 0)) (bp BK569) NB569_0.out (by simp)); have _ := ku (qk _ _ _ HK) hk; have _ := ra (hb); have _ := ra (hi); clear BK560 BK569 HK HB HI0; rename_i BK560 BK569 HK HB HI0; (try clear hb); (try clear hb2); (try clear hk); (try clear hi); obtain ⟨hcz55_0, hcz55_1, hcz55_2, hcz55_3, hcz55_4, hcz55_5, hfz55_0, hfz55_1, hfz55_2, hfz55_3, hfz55_4, hfz55_5⟩ := zc6 BK569; have hnb56 := NB560_0.out; have hnc56 := NB0_560.out; obtain ⟨hcz57_0, hcz57_1, hcz57_2, hcz57_3, hcz57_4, hcz57_5, hfz57_0, hfz57_1, hfz57_2, hfz57_3, hfz57_4, hfz57_5⟩ := zc6 BK560))
   refine bodyPost_ret (results_cell_row rfl _ _ gb560 26 #[.int .i64 t561, .int .i64 t563, .int .i64 t565, .int .i64 (wrap64 (t565 + t570)), .int .i64 (wrap64 (10000 - t578)), .int .i64 10000] (0, 0) _ rfl (bp BK560) Try.underlying26 rfl (by kernel_rfl)) rfl ?_
   exact ⟨re, by exact qi HI0, by exact qb HI0 HB, by exact qk _ _ _ HK⟩
  ·rw [if_neg c33] at H
   have c33b0 : (t574 == 1) = false := beq_eq_false_iff_ne.mpr c33
   have c33b1 : (t574 != 1) = true := bne_iff_ne.mpr c33
   by_cases c58 : t574 = 2
   ·rw [if_pos c58] at H
    have c58b0 : (t574 == 2) = true := beq_iff_eq.mpr c58
    have c58b1 : (t574 != 2) = false := bne_eq_false_iff_eq.mpr c58
    clear c58
    simp only [Option.some.injEq, Prod.mk.injEq] at H
    obtain ⟨rfl, rfl, rfl, rfl, rfl, rfl, rfl⟩ := H
    go_enter Try.func68, Try.ntmps68
    try go_wp2_with (first | ((with_reducible refine gate_dst (N := 2) rfl ?_); refine be 2 #[.int .i64 0, .int .i64 0, .int .i64 0, .int .i64 0, .int .i64 0, .int .i64 0] 26 ?_; intro gb560 hg w59 hbox hb; have _ := ra (IsS90.below (qi HI0) hb); have _ := kt (qk _ _ _ HK) hb; have _ := ra (below_step (qb HI0 HB) hb); have _ := ra (hbox); have _ := ns hg (qk w _ g HK); have _ := nt hg HW0 (qk w _ g HK); have _ := nl hg (qi HI0); have _ := nr hg (qi HI0); clear HI0 HK HB; rename_i HI0 HK HB BK560 GW560 GE560 NB0_560 NB560_0; clear hb hbox hg) | ((with_reducible refine gate_callee (f := 65) rfl ?_); refine gl (some 5) Try.func65 #[.pointer (some ⟨g, 0, none⟩), .int .i64 6] ?_; (with_reducible refine (spec_l1Rd_pick.calls k g s0_0 s0_1 6 t561 t562 w0 _ ?side1 ?side2 A2.out).mono ?_); (case side1 => exact qi HI0); (case side2 => exact qb HI0 HB); rintro e w60 ⟨rfl, hi, hb, hk⟩; refine ⟨_, rfl, ?_⟩; have _ := kv hk (bk BK560) NB560_0; have _ := ku (qk _ _ _ HK) hk; have _ := ra (hb); have _ := ra (hi); clear BK560 HK HB HI0; rename_i BK560 HK HB HI0; (try clear hb); (try clear hb2); (try clear hk); (try clear hi)) | ((with_reducible refine gate_callee (f := 65) rfl ?_); refine gl (some 7) Try.func65 #[.pointer (some ⟨g, 0, none⟩), .int .i64 6] ?_; (with_reducible refine (spec_l1Rd_pick.calls k g s0_0 t562 6 t563 t564 w0 _ ?side1 ?side2 A3.out).mono ?_); (case side1 => exact qi HI0); (case side2 => exact qb HI0 HB); rintro e w61 ⟨rfl, hi, hb, hk⟩; refine ⟨_, rfl, ?_⟩; have _ := kv hk (bk BK560) NB560_0; have _ := ku (qk _ _ _ HK) hk; have _ := ra (hb); have _ := ra (hi); clear BK560 HK HB HI0; rename_i BK560 HK HB HI0; (try clear hb); (try clear hb2); (try clear hk); (try clear hi)) | ((with_reducible refine gate_callee (f := 65) rfl ?_); refine gl (some 9) Try.func65 #[.pointer (some ⟨g, 0, none⟩), .int .i64 3] ?_; (with_reducible refine (spec_l1Rd_pick.calls k g s0_0 t564 3 t565 t566 w0 _ ?side1 ?side2 A4.out).mono ?_); (case side1 => exact qi HI0); (case side2 => exact qb HI0 HB); rintro e w62 ⟨rfl, hi, hb, hk⟩; refine ⟨_, rfl, ?_⟩; have _ := kv hk (bk BK560) NB560_0; have _ := ku (qk _ _ _ HK) hk; have _ := ra (hb); have _ := ra (hi); clear BK560 HK HB HI0; rename_i BK560 HK HB HI0; (try clear hb); (try clear hb2); (try clear hk); (try clear hi)) | ((with_reducible refine gate_callee (f := 65) rfl ?_); refine gl (some 11) Try.func65 #[.pointer (some ⟨g, 0, none⟩), .int .i64 60] ?_; (with_reducible refine (spec_l1Rd_pick.calls k g s0_0 t566 60 t567 t568 w0 _ ?side1 ?side2 A5.out).mono ?_); (case side1 => exact qi HI0); (case side2 => exact qb HI0 HB); rintro e w63 ⟨rfl, hi, hb, hk⟩; refine ⟨_, rfl, ?_⟩; have _ := kv hk (bk BK560) NB560_0; have _ := ku (qk _ _ _ HK) hk; have _ := ra (hb); have _ := ra (hi); clear BK560 HK HB HI0; rename_i BK560 HK HB HI0; (try clear hb); (try clear hb2); (try clear hk); (try clear hi)) | ((with_reducible refine gate_dst (N := 3) rfl ?_); refine be 3 #[.int .i64 0, .int .i64 0, .int .i64 0, .int .i64 0, .int .i64 0, .int .i64 0] 26 ?_; intro gb569 hg w64 hbox hb; have _ := ra (IsS90.below (qi HI0) hb); have _ := bb (bk BK560) hb; have _ := kt (qk _ _ _ HK) hb; have _ := ra (below_step (qb HI0 HB) hb); have _ := ra (hbox); have _ := ns hg (qk w _ g HK); have _ := nt hg HW0 (qk w _ g HK); have _ := bn hg (bk BK560); have _ := bm hg (bk BK560); have _ := nl hg (qi HI0); have _ := nr hg (qi HI0); clear HI0 BK560 HK HB; rename_i HI0 BK560 HK HB BK569 GW569 GE569 NB560_569 NB569_560 NB0_569 NB569_0; clear hb hbox hg; have hnb65 := NB569_560.out; have hnc65 := NB560_569.out; have hnb66 := NB569_0.out; have hnc66 := NB0_569.out; obtain ⟨hcz67_0, hcz67_1, hcz67_2, hcz67_3, hcz67_4, hcz67_5, hfz67_0, hfz67_1, hfz67_2, hfz67_3, hfz67_4, hfz67_5⟩ := zc6 BK569))
    have n0 : Aside0 (((((((w64.setCell ⟨gb569, 0, none⟩ (.int .i64 t561)).setCell ⟨gb569, 1, none⟩ (.int .i64 t563)).setCell ⟨gb569, 2, none⟩ (.int .i64 t565)).setCell ⟨gb569, 3, none⟩ (.int .i64 0)).setCell ⟨gb569, 4, none⟩ (.int .i64 t567)).setCell ⟨gb569, 5, none⟩ (.int .i64 0)).heap[gb560]? = some (.cells #[.int .i64 0, .int .i64 0, .int .i64 0, .int .i64 0, .int .i64 0, .int .i64 0] 26 (0, 0))) := ⟨bk BK560⟩
    have n1 : Aside0 (((((((w64.setCell ⟨gb569, 0, none⟩ (.int .i64 t561)).setCell ⟨gb569, 1, none⟩ (.int .i64 t563)).setCell ⟨gb569, 2, none⟩ (.int .i64 t565)).setCell ⟨gb569, 3, none⟩ (.int .i64 0)).setCell ⟨gb569, 4, none⟩ (.int .i64 t567)).setCell ⟨gb569, 5, none⟩ (.int .i64 0)).heap[gb569]? = some (.cells #[.int .i64 t561, .int .i64 t563, .int .i64 t565, .int .i64 0, .int .i64 t567, .int .i64 0] 26 (0, 0))) := ⟨bp BK569⟩
    have n2 : Aside0 (IsS90 w0 ((((((w64.setCell ⟨gb569, 0, none⟩ (.int .i64 t561)).setCell ⟨gb569, 1, none⟩ (.int .i64 t563)).setCell ⟨gb569, 2, none⟩ (.int .i64 t565)).setCell ⟨gb569, 3, none⟩ (.int .i64 0)).setCell ⟨gb569, 4, none⟩ (.int .i64 t567)).setCell ⟨gb569, 5, none⟩ (.int .i64 0)) g s0_0 t568) := ⟨by exact qi HI0⟩
    have n3 : Aside0 (KeepBut w ((((((w64.setCell ⟨gb569, 0, none⟩ (.int .i64 t561)).setCell ⟨gb569, 1, none⟩ (.int .i64 t563)).setCell ⟨gb569, 2, none⟩ (.int .i64 t565)).setCell ⟨gb569, 3, none⟩ (.int .i64 0)).setCell ⟨gb569, 4, none⟩ (.int .i64 t567)).setCell ⟨gb569, 5, none⟩ (.int .i64 0)) g none) := ⟨by exact qk _ _ _ HK⟩
    have n4 : Aside0 (Below w0.heap.size w0 ((((((w64.setCell ⟨gb569, 0, none⟩ (.int .i64 t561)).setCell ⟨gb569, 1, none⟩ (.int .i64 t563)).setCell ⟨gb569, 2, none⟩ (.int .i64 t565)).setCell ⟨gb569, 3, none⟩ (.int .i64 0)).setCell ⟨gb569, 4, none⟩ (.int .i64 t567)).setCell ⟨gb569, 5, none⟩ (.int .i64 0))) := ⟨by exact qb HI0 HB⟩
    (try clear BK560)
    (try clear BK569)
    (try clear HI0)
    (try clear HK)
    (try clear HB)
    generalize ((((((w64.setCell ⟨gb569, 0, none⟩ (.int .i64 t561)).setCell ⟨gb569, 1, none⟩ (.int .i64 t563)).setCell ⟨gb569, 2, none⟩ (.int .i64 t565)).setCell ⟨gb569, 3, none⟩ (.int .i64 0)).setCell ⟨gb569, 4, none⟩ (.int .i64 t567)).setCell ⟨gb569, 5, none⟩ (.int .i64 0)) = w68 at n0 n1 n2 n3 n4 ⊢
    have BK560 := n0
    have BK569 := n1
    have HI0 := n2
    have HK := n3
    have HB := n4
    clear n0 n1 n2 n3 n4
    have _ := ra (blk_drew BK560.out)
    have _ := ra (blk_drew BK569.out)
    have _ := ra (IsS90.drew HI0.out)
    have _ := ra (keep_drew HK.out)
    have _ := ra (below_drew1 HB.out)
    clear BK560 BK569 HI0 HK HB
    rename_i BK560 BK569 HI0 HK HB
    refine start_ (n := 7) (S := fun w' => w'.cell? ⟨gb569, 0, none⟩ = some (.int .i64 t561) ∧ w'.cell? ⟨gb569, 1, none⟩ = some (.int .i64 t563) ∧ w'.cell? ⟨gb569, 2, none⟩ = some (.int .i64 t565) ∧ w'.cell? ⟨gb569, 3, none⟩ = some (.int .i64 0) ∧ w'.cell? ⟨gb569, 4, none⟩ = some (.int .i64 t567) ∧ w'.cell? ⟨gb569, 5, none⟩ = some (.int .i64 0)) (ds := [6]) #[false, false, false, false, false, false, false] (by kernel_rfl) rfl rfl ⟨(blk_cell BK569.out 0).trans rfl, (blk_cell BK569.out 1).trans rfl, (blk_cell BK569.out 2).trans rfl, (blk_cell BK569.out 3).trans rfl, (blk_cell BK569.out 4).trans rfl, (blk_cell BK569.out 5).trans rfl⟩ (fun hHeld => ?_)
    generalize w68.drew = w69 at BK560 BK569 HI0 HK HB hHeld ⊢
    refine pu 0 13 (bl 7 1) ?_
    refine pu 2 15 (bl 7 5) ?_
    refine tk 1 14 (bl 7 7) ?_ hHeld
    refine oe 3 16 (bl 7 15) (fun K hK => ?_)
    refine gs Try.func65 #[.pointer (some ⟨g, 0, none⟩), .int .i64 3] ?_
    with_reducible refine (spec_l1Rd_pick.calls k g s0_0 t568 3 t570 t571 w0 _ ?side1 ?side2 A6.out).mono ?_
    (case side1 => exact qi HI0)
    (case side2 => exact qb HI0 HB)
    rintro e w70 ⟨rfl, hi, hb, hk⟩
    refine ⟨_, rfl, ?_⟩
    have _ := kv hk (bk BK560) NB560_0
    have _ := kv hk (bk BK569) NB569_0
    have _ := ku (qk _ _ _ HK) hk
    have _ := ra (hb)
    have _ := ra (hi)
    clear BK560 BK569 HK HB HI0
    rename_i BK560 BK569 HK HB HI0
    (try clear hb)
    (try clear hb2)
    (try clear hk)
    (try clear hi)
    refine hK.out _ _ ⟨(blk_cell BK569.out 0).trans rfl, (blk_cell BK569.out 1).trans rfl, (blk_cell BK569.out 2).trans rfl, (blk_cell BK569.out 3).trans rfl, (blk_cell BK569.out 4).trans rfl, (blk_cell BK569.out 5).trans rfl⟩ (fun hHeld => ?_)
    clear hK K
    refine nm 16 ?_
    refine pu 4 17 (bl 7 31) ?_
    refine pu 5 18 (bl 7 63) ?_
    refine last_ (i := 6) (N := none) #[true, true, true, true, true, true, true] rfl rfl (by kernel_rfl) (by decide) (fun K hK => ?_)
    have hs71 : w70.cell? ⟨gb569, 3, none⟩ = some (.int .i64 0) := (blk_cell BK569.out 3).trans rfl
    have hfs71 := blk_frozen BK569.out 3
    have hns71_0 := NB560_569.out
    have hms71_0 := NB569_560.out
    refine skip_ (w1 := ?_) (by rfl) rfl ?_ ?_
    rotate_left
    ·go_simp
     rfl
    refine hK.out _ _ ?_
    clear hK K
    refine done_ (by kernel_rfl) ?_
    try go_wp2
    have n0 : Aside0 ((w70.setCell ⟨gb569, 3, none⟩ (.int .i64 (wrap64 (t565 + t570)))).heap[gb560]? = some (.cells #[.int .i64 0, .int .i64 0, .int .i64 0, .int .i64 0, .int .i64 0, .int .i64 0] 26 (0, 0))) := ⟨bk BK560⟩
    have n1 : Aside0 ((w70.setCell ⟨gb569, 3, none⟩ (.int .i64 (wrap64 (t565 + t570)))).heap[gb569]? = some (.cells #[.int .i64 t561, .int .i64 t563, .int .i64 t565, .int .i64 (wrap64 (t565 + t570)), .int .i64 t567, .int .i64 0] 26 (0, 0))) := ⟨bp BK569⟩
    have n2 : Aside0 (IsS90 w0 (w70.setCell ⟨gb569, 3, none⟩ (.int .i64 (wrap64 (t565 + t570)))) g s0_0 t571) := ⟨by exact qi HI0⟩
    have n3 : Aside0 (KeepBut w (w70.setCell ⟨gb569, 3, none⟩ (.int .i64 (wrap64 (t565 + t570)))) g none) := ⟨by exact qk _ _ _ HK⟩
    have n4 : Aside0 (Below w0.heap.size w0 (w70.setCell ⟨gb569, 3, none⟩ (.int .i64 (wrap64 (t565 + t570))))) := ⟨by exact qb HI0 HB⟩
    (try clear BK560)
    (try clear BK569)
    (try clear HI0)
    (try clear HK)
    (try clear HB)
    generalize (w70.setCell ⟨gb569, 3, none⟩ (.int .i64 (wrap64 (t565 + t570)))) = w72 at n0 n1 n2 n3 n4 ⊢
    have BK560 := n0
    have BK569 := n1
    have HI0 := n2
    have HK := n3
    have HB := n4
    clear n0 n1 n2 n3 n4
    have _ := ra (blk_drew BK560.out)
    have _ := ra (blk_drew BK569.out)
    have _ := ra (IsS90.drew HI0.out)
    have _ := ra (keep_drew HK.out)
    have _ := ra (below_drew1 HB.out)
    clear BK560 BK569 HI0 HK HB
    rename_i BK560 BK569 HI0 HK HB
    refine start_ (n := 7) (S := fun w' => w'.cell? ⟨gb569, 0, none⟩ = some (.int .i64 t561) ∧ w'.cell? ⟨gb569, 1, none⟩ = some (.int .i64 t563) ∧ w'.cell? ⟨gb569, 2, none⟩ = some (.int .i64 t565) ∧ w'.cell? ⟨gb569, 3, none⟩ = some (.int .i64 (wrap64 (t565 + t570))) ∧ w'.cell? ⟨gb569, 4, none⟩ = some (.int .i64 t567) ∧ w'.cell? ⟨gb569, 5, none⟩ = some (.int .i64 0)) (ds := [6]) #[false, false, false, false, false, false, false] (by kernel_rfl) rfl rfl ⟨(blk_cell BK569.out 0).trans rfl, (blk_cell BK569.out 1).trans rfl, (blk_cell BK569.out 2).trans rfl, (blk_cell BK569.out 3).trans rfl, (blk_cell BK569.out 4).trans rfl, (blk_cell BK569.out 5).trans rfl⟩ (fun hHeld => ?_)
    generalize w72.drew = w73 at BK560 BK569 HI0 HK HB hHeld ⊢
    refine pu 0 19 (bl 7 1) ?_
    refine pu 2 21 (bl 7 5) ?_
    refine tk 1 20 (bl 7 7) ?_ hHeld
    refine oe 3 22 (bl 7 15) (fun K hK => ?_)
    refine gs Try.func65 #[.pointer (some ⟨g, 0, none⟩), .int .i64 20] ?_
    with_reducible refine (spec_l1Rd_pick.calls k g s0_0 t571 20 t572 t573 w0 _ ?side1 ?side2 A7.out).mono ?_
    (case side1 => exact qi HI0)
    (case side2 => exact qb HI0 HB)
    rintro e w74 ⟨rfl, hi, hb, hk⟩
    refine ⟨_, rfl, ?_⟩
    have _ := kv hk (bk BK560) NB560_0
    have _ := kv hk (bk BK569) NB569_0
    have _ := ku (qk _ _ _ HK) hk
    have _ := ra (hb)
    have _ := ra (hi)
    clear BK560 BK569 HK HB HI0
    rename_i BK560 BK569 HK HB HI0
    (try clear hb)
    (try clear hb2)
    (try clear hk)
    (try clear hi)
    refine hK.out _ _ ⟨(blk_cell BK569.out 0).trans rfl, (blk_cell BK569.out 1).trans rfl, (blk_cell BK569.out 2).trans rfl, (blk_cell BK569.out 3).trans rfl, (blk_cell BK569.out 4).trans rfl, (blk_cell BK569.out 5).trans rfl⟩ (fun hHeld => ?_)
    clear hK K
    refine nm 22 ?_
    refine pu 4 23 (bl 7 31) ?_
    refine pu 5 24 (bl 7 63) ?_
    refine last_ (i := 6) (N := none) #[true, true, true, true, true, true, true] rfl rfl (by kernel_rfl) (by decide) (fun K hK => ?_)
    have hs75 : w74.cell? ⟨gb569, 5, none⟩ = some (.int .i64 0) := (blk_cell BK569.out 5).trans rfl
    have hfs75 := blk_frozen BK569.out 5
    have hns75_0 := NB560_569.out
    have hms75_0 := NB569_560.out
    refine skip_ (w1 := ?_) (by rfl) rfl ?_ ?_
    rotate_left
    ·go_simp
     rfl
    refine hK.out _ _ ?_
    clear hK K
    refine done_ (by kernel_rfl) ?_
    try go_wp2_with (first | ((with_reducible refine gate_callee (f := 65) rfl ?_); refine gl (some 26) Try.func65 #[.pointer (some ⟨g, 0, none⟩), .int .i64 24] ?_; (with_reducible refine (spec_l1Rd_pick.calls k g s0_0 t573 24 t574 t575 w0 _ ?side1 ?side2 A8.out).mono ?_); (case side1 => exact qi HI0); (case side2 => exact qb HI0 HB); rintro e w76 ⟨rfl, hi, hb, hk⟩; refine ⟨_, rfl, ?_⟩; have _ := kv hk (bk BK560) NB560_0; have _ := ra (KeepBut.blk hk (g' := gb569) (o := .cells #[.int .i64 t561, .int .i64 t563, .int .i64 t565, .int .i64 (wrap64 (t565 + t570)), .int .i64 t567, .int .i64 (wrap64 (t567 + t572))] 26 (0, 0)) (bp BK569) NB569_0.out (by simp)); have _ := ku (qk _ _ _ HK) hk; have _ := ra (hb); have _ := ra (hi); clear BK560 BK569 HK HB HI0; rename_i BK560 BK569 HK HB HI0; (try clear hb); (try clear hb2); (try clear hk); (try clear hi); obtain ⟨hcz77_0, hcz77_1, hcz77_2, hcz77_3, hcz77_4, hcz77_5, hfz77_0, hfz77_1, hfz77_2, hfz77_3, hfz77_4, hfz77_5⟩ := zc6 BK569; have hnb78 := NB560_0.out; have hnc78 := NB0_560.out; obtain ⟨hcz79_0, hcz79_1, hcz79_2, hcz79_3, hcz79_4, hcz79_5, hfz79_0, hfz79_1, hfz79_2, hfz79_3, hfz79_4, hfz79_5⟩ := zc6 BK560))
    refine bodyPost_ret (results_cell_row rfl _ _ gb560 26 #[.int .i64 t561, .int .i64 t563, .int .i64 t565, .int .i64 6, .int .i64 t567, .int .i64 (wrap64 (t567 + t572))] (0, 0) _ rfl (bp BK560) Try.underlying26 rfl (by kernel_rfl)) rfl ?_
    exact ⟨re, by exact qi HI0, by exact qb HI0 HB, by exact qk _ _ _ HK⟩
   ·rw [if_neg c58] at H
    have c58b0 : (t574 == 2) = false := beq_eq_false_iff_ne.mpr c58
    have c58b1 : (t574 != 2) = true := bne_iff_ne.mpr c58
    simp only [Option.some.injEq, Prod.mk.injEq] at H
    obtain ⟨rfl, rfl, rfl, rfl, rfl, rfl, rfl⟩ := H
    go_enter Try.func68, Try.ntmps68
    try go_wp2_with (first | ((with_reducible refine gate_dst (N := 2) rfl ?_); refine be 2 #[.int .i64 0, .int .i64 0, .int .i64 0, .int .i64 0, .int .i64 0, .int .i64 0] 26 ?_; intro gb560 hg w80 hbox hb; have _ := ra (IsS90.below (qi HI0) hb); have _ := kt (qk _ _ _ HK) hb; have _ := ra (below_step (qb HI0 HB) hb); have _ := ra (hbox); have _ := ns hg (qk w _ g HK); have _ := nt hg HW0 (qk w _ g HK); have _ := nl hg (qi HI0); have _ := nr hg (qi HI0); clear HI0 HK HB; rename_i HI0 HK HB BK560 GW560 GE560 NB0_560 NB560_0; clear hb hbox hg) | ((with_reducible refine gate_callee (f := 65) rfl ?_); refine gl (some 5) Try.func65 #[.pointer (some ⟨g, 0, none⟩), .int .i64 6] ?_; (with_reducible refine (spec_l1Rd_pick.calls k g s0_0 s0_1 6 t561 t562 w0 _ ?side1 ?side2 A2.out).mono ?_); (case side1 => exact qi HI0); (case side2 => exact qb HI0 HB); rintro e w81 ⟨rfl, hi, hb, hk⟩; refine ⟨_, rfl, ?_⟩; have _ := kv hk (bk BK560) NB560_0; have _ := ku (qk _ _ _ HK) hk; have _ := ra (hb); have _ := ra (hi); clear BK560 HK HB HI0; rename_i BK560 HK HB HI0; (try clear hb); (try clear hb2); (try clear hk); (try clear hi)) | ((with_reducible refine gate_callee (f := 65) rfl ?_); refine gl (some 7) Try.func65 #[.pointer (some ⟨g, 0, none⟩), .int .i64 6] ?_; (with_reducible refine (spec_l1Rd_pick.calls k g s0_0 t562 6 t563 t564 w0 _ ?side1 ?side2 A3.out).mono ?_); (case side1 => exact qi HI0); (case side2 => exact qb HI0 HB); rintro e w82 ⟨rfl, hi, hb, hk⟩; refine ⟨_, rfl, ?_⟩; have _ := kv hk (bk BK560) NB560_0; have _ := ku (qk _ _ _ HK) hk; have _ := ra (hb); have _ := ra (hi); clear BK560 HK HB HI0; rename_i BK560 HK HB HI0; (try clear hb); (try clear hb2); (try clear hk); (try clear hi)) | ((with_reducible refine gate_callee (f := 65) rfl ?_); refine gl (some 9) Try.func65 #[.pointer (some ⟨g, 0, none⟩), .int .i64 3] ?_; (with_reducible refine (spec_l1Rd_pick.calls k g s0_0 t564 3 t565 t566 w0 _ ?side1 ?side2 A4.out).mono ?_); (case side1 => exact qi HI0); (case side2 => exact qb HI0 HB); rintro e w83 ⟨rfl, hi, hb, hk⟩; refine ⟨_, rfl, ?_⟩; have _ := kv hk (bk BK560) NB560_0; have _ := ku (qk _ _ _ HK) hk; have _ := ra (hb); have _ := ra (hi); clear BK560 HK HB HI0; rename_i BK560 HK HB HI0; (try clear hb); (try clear hb2); (try clear hk); (try clear hi)) | ((with_reducible refine gate_callee (f := 65) rfl ?_); refine gl (some 11) Try.func65 #[.pointer (some ⟨g, 0, none⟩), .int .i64 60] ?_; (with_reducible refine (spec_l1Rd_pick.calls k g s0_0 t566 60 t567 t568 w0 _ ?side1 ?side2 A5.out).mono ?_); (case side1 => exact qi HI0); (case side2 => exact qb HI0 HB); rintro e w84 ⟨rfl, hi, hb, hk⟩; refine ⟨_, rfl, ?_⟩; have _ := kv hk (bk BK560) NB560_0; have _ := ku (qk _ _ _ HK) hk; have _ := ra (hb); have _ := ra (hi); clear BK560 HK HB HI0; rename_i BK560 HK HB HI0; (try clear hb); (try clear hb2); (try clear hk); (try clear hi)) | ((with_reducible refine gate_dst (N := 3) rfl ?_); refine be 3 #[.int .i64 0, .int .i64 0, .int .i64 0, .int .i64 0, .int .i64 0, .int .i64 0] 26 ?_; intro gb569 hg w85 hbox hb; have _ := ra (IsS90.below (qi HI0) hb); have _ := bb (bk BK560) hb; have _ := kt (qk _ _ _ HK) hb; have _ := ra (below_step (qb HI0 HB) hb); have _ := ra (hbox); have _ := ns hg (qk w _ g HK); have _ := nt hg HW0 (qk w _ g HK); have _ := bn hg (bk BK560); have _ := bm hg (bk BK560); have _ := nl hg (qi HI0); have _ := nr hg (qi HI0); clear HI0 BK560 HK HB; rename_i HI0 BK560 HK HB BK569 GW569 GE569 NB560_569 NB569_560 NB0_569 NB569_0; clear hb hbox hg; have hnb86 := NB569_560.out; have hnc86 := NB560_569.out; have hnb87 := NB569_0.out; have hnc87 := NB0_569.out; obtain ⟨hcz88_0, hcz88_1, hcz88_2, hcz88_3, hcz88_4, hcz88_5, hfz88_0, hfz88_1, hfz88_2, hfz88_3, hfz88_4, hfz88_5⟩ := zc6 BK569))
    have n0 : Aside0 (((((((w85.setCell ⟨gb569, 0, none⟩ (.int .i64 t561)).setCell ⟨gb569, 1, none⟩ (.int .i64 t563)).setCell ⟨gb569, 2, none⟩ (.int .i64 t565)).setCell ⟨gb569, 3, none⟩ (.int .i64 0)).setCell ⟨gb569, 4, none⟩ (.int .i64 t567)).setCell ⟨gb569, 5, none⟩ (.int .i64 0)).heap[gb560]? = some (.cells #[.int .i64 0, .int .i64 0, .int .i64 0, .int .i64 0, .int .i64 0, .int .i64 0] 26 (0, 0))) := ⟨bk BK560⟩
    have n1 : Aside0 (((((((w85.setCell ⟨gb569, 0, none⟩ (.int .i64 t561)).setCell ⟨gb569, 1, none⟩ (.int .i64 t563)).setCell ⟨gb569, 2, none⟩ (.int .i64 t565)).setCell ⟨gb569, 3, none⟩ (.int .i64 0)).setCell ⟨gb569, 4, none⟩ (.int .i64 t567)).setCell ⟨gb569, 5, none⟩ (.int .i64 0)).heap[gb569]? = some (.cells #[.int .i64 t561, .int .i64 t563, .int .i64 t565, .int .i64 0, .int .i64 t567, .int .i64 0] 26 (0, 0))) := ⟨bp BK569⟩
    have n2 : Aside0 (IsS90 w0 ((((((w85.setCell ⟨gb569, 0, none⟩ (.int .i64 t561)).setCell ⟨gb569, 1, none⟩ (.int .i64 t563)).setCell ⟨gb569, 2, none⟩ (.int .i64 t565)).setCell ⟨gb569, 3, none⟩ (.int .i64 0)).setCell ⟨gb569, 4, none⟩ (.int .i64 t567)).setCell ⟨gb569, 5, none⟩ (.int .i64 0)) g s0_0 t568) := ⟨by exact qi HI0⟩
    have n3 : Aside0 (KeepBut w ((((((w85.setCell ⟨gb569, 0, none⟩ (.int .i64 t561)).setCell ⟨gb569, 1, none⟩ (.int .i64 t563)).setCell ⟨gb569, 2, none⟩ (.int .i64 t565)).setCell ⟨gb569, 3, none⟩ (.int .i64 0)).setCell ⟨gb569, 4, none⟩ (.int .i64 t567)).setCell ⟨gb569, 5, none⟩ (.int .i64 0)) g none) := ⟨by exact qk _ _ _ HK⟩
    have n4 : Aside0 (Below w0.heap.size w0 ((((((w85.setCell ⟨gb569, 0, none⟩ (.int .i64 t561)).setCell ⟨gb569, 1, none⟩ (.int .i64 t563)).setCell ⟨gb569, 2, none⟩ (.int .i64 t565)).setCell ⟨gb569, 3, none⟩ (.int .i64 0)).setCell ⟨gb569, 4, none⟩ (.int .i64 t567)).setCell ⟨gb569, 5, none⟩ (.int .i64 0))) := ⟨by exact qb HI0 HB⟩
    (try clear BK560)
    (try clear BK569)
    (try clear HI0)
    (try clear HK)
    (try clear HB)
    generalize ((((((w85.setCell ⟨gb569, 0, none⟩ (.int .i64 t561)).setCell ⟨gb569, 1, none⟩ (.int .i64 t563)).setCell ⟨gb569, 2, none⟩ (.int .i64 t565)).setCell ⟨gb569, 3, none⟩ (.int .i64 0)).setCell ⟨gb569, 4, none⟩ (.int .i64 t567)).setCell ⟨gb569, 5, none⟩ (.int .i64 0)) = w89 at n0 n1 n2 n3 n4 ⊢
    have BK560 := n0
    have BK569 := n1
    have HI0 := n2
    have HK := n3
    have HB := n4
    clear n0 n1 n2 n3 n4
    have _ := ra (blk_drew BK560.out)
    have _ := ra (blk_drew BK569.out)
    have _ := ra (IsS90.drew HI0.out)
    have _ := ra (keep_drew HK.out)
    have _ := ra (below_drew1 HB.out)
    clear BK560 BK569 HI0 HK HB
    rename_i BK560 BK569 HI0 HK HB
    refine start_ (n := 7) (S := fun w' => w'.cell? ⟨gb569, 0, none⟩ = some (.int .i64 t561) ∧ w'.cell? ⟨gb569, 1, none⟩ = some (.int .i64 t563) ∧ w'.cell? ⟨gb569, 2, none⟩ = some (.int .i64 t565) ∧ w'.cell? ⟨gb569, 3, none⟩ = some (.int .i64 0) ∧ w'.cell? ⟨gb569, 4, none⟩ = some (.int .i64 t567) ∧ w'.cell? ⟨gb569, 5, none⟩ = some (.int .i64 0)) (ds := [6]) #[false, false, false, false, false, false, false] (by kernel_rfl) rfl rfl ⟨(blk_cell BK569.out 0).trans rfl, (blk_cell BK569.out 1).trans rfl, (blk_cell BK569.out 2).trans rfl, (blk_cell BK569.out 3).trans rfl, (blk_cell BK569.out 4).trans rfl, (blk_cell BK569.out 5).trans rfl⟩ (fun hHeld => ?_)
    generalize w89.drew = w90 at BK560 BK569 HI0 HK HB hHeld ⊢
    refine pu 0 13 (bl 7 1) ?_
    refine pu 2 15 (bl 7 5) ?_
    refine tk 1 14 (bl 7 7) ?_ hHeld
    refine oe 3 16 (bl 7 15) (fun K hK => ?_)
    refine gs Try.func65 #[.pointer (some ⟨g, 0, none⟩), .int .i64 3] ?_
    with_reducible refine (spec_l1Rd_pick.calls k g s0_0 t568 3 t570 t571 w0 _ ?side1 ?side2 A6.out).mono ?_
    (case side1 => exact qi HI0)
    (case side2 => exact qb HI0 HB)
    rintro e w91 ⟨rfl, hi, hb, hk⟩
    refine ⟨_, rfl, ?_⟩
    have _ := kv hk (bk BK560) NB560_0
    have _ := kv hk (bk BK569) NB569_0
    have _ := ku (qk _ _ _ HK) hk
    have _ := ra (hb)
    have _ := ra (hi)
    clear BK560 BK569 HK HB HI0
    rename_i BK560 BK569 HK HB HI0
    (try clear hb)
    (try clear hb2)
    (try clear hk)
    (try clear hi)
    refine hK.out _ _ ⟨(blk_cell BK569.out 0).trans rfl, (blk_cell BK569.out 1).trans rfl, (blk_cell BK569.out 2).trans rfl, (blk_cell BK569.out 3).trans rfl, (blk_cell BK569.out 4).trans rfl, (blk_cell BK569.out 5).trans rfl⟩ (fun hHeld => ?_)
    clear hK K
    refine nm 16 ?_
    refine pu 4 17 (bl 7 31) ?_
    refine pu 5 18 (bl 7 63) ?_
    refine last_ (i := 6) (N := none) #[true, true, true, true, true, true, true] rfl rfl (by kernel_rfl) (by decide) (fun K hK => ?_)
    have hs92 : w91.cell? ⟨gb569, 3, none⟩ = some (.int .i64 0) := (blk_cell BK569.out 3).trans rfl
    have hfs92 := blk_frozen BK569.out 3
    have hns92_0 := NB560_569.out
    have hms92_0 := NB569_560.out
    refine skip_ (w1 := ?_) (by rfl) rfl ?_ ?_
    rotate_left
    ·go_simp
     rfl
    refine hK.out _ _ ?_
    clear hK K
    refine done_ (by kernel_rfl) ?_
    try go_wp2
    have n0 : Aside0 ((w91.setCell ⟨gb569, 3, none⟩ (.int .i64 (wrap64 (t565 + t570)))).heap[gb560]? = some (.cells #[.int .i64 0, .int .i64 0, .int .i64 0, .int .i64 0, .int .i64 0, .int .i64 0] 26 (0, 0))) := ⟨bk BK560⟩
    have n1 : Aside0 ((w91.setCell ⟨gb569, 3, none⟩ (.int .i64 (wrap64 (t565 + t570)))).heap[gb569]? = some (.cells #[.int .i64 t561, .int .i64 t563, .int .i64 t565, .int .i64 (wrap64 (t565 + t570)), .int .i64 t567, .int .i64 0] 26 (0, 0))) := ⟨bp BK569⟩
    have n2 : Aside0 (IsS90 w0 (w91.setCell ⟨gb569, 3, none⟩ (.int .i64 (wrap64 (t565 + t570)))) g s0_0 t571) := ⟨by exact qi HI0⟩
    have n3 : Aside0 (KeepBut w (w91.setCell ⟨gb569, 3, none⟩ (.int .i64 (wrap64 (t565 + t570)))) g none) := ⟨by exact qk _ _ _ HK⟩
    have n4 : Aside0 (Below w0.heap.size w0 (w91.setCell ⟨gb569, 3, none⟩ (.int .i64 (wrap64 (t565 + t570))))) := ⟨by exact qb HI0 HB⟩
    (try clear BK560)
    (try clear BK569)
    (try clear HI0)
    (try clear HK)
    (try clear HB)
    generalize (w91.setCell ⟨gb569, 3, none⟩ (.int .i64 (wrap64 (t565 + t570)))) = w93 at n0 n1 n2 n3 n4 ⊢
    have BK560 := n0
    have BK569 := n1
    have HI0 := n2
    have HK := n3
    have HB := n4
    clear n0 n1 n2 n3 n4
    have _ := ra (blk_drew BK560.out)
    have _ := ra (blk_drew BK569.out)
    have _ := ra (IsS90.drew HI0.out)
    have _ := ra (keep_drew HK.out)
    have _ := ra (below_drew1 HB.out)
    clear BK560 BK569 HI0 HK HB
    rename_i BK560 BK569 HI0 HK HB
    refine start_ (n := 7) (S := fun w' => w'.cell? ⟨gb569, 0, none⟩ = some (.int .i64 t561) ∧ w'.cell? ⟨gb569, 1, none⟩ = some (.int .i64 t563) ∧ w'.cell? ⟨gb569, 2, none⟩ = some (.int .i64 t565) ∧ w'.cell? ⟨gb569, 3, none⟩ = some (.int .i64 (wrap64 (t565 + t570))) ∧ w'.cell? ⟨gb569, 4, none⟩ = some (.int .i64 t567) ∧ w'.cell? ⟨gb569, 5, none⟩ = some (.int .i64 0)) (ds := [6]) #[false, false, false, false, false, false, false] (by kernel_rfl) rfl rfl ⟨(blk_cell BK569.out 0).trans rfl, (blk_cell BK569.out 1).trans rfl, (blk_cell BK569.out 2).trans rfl, (blk_cell BK569.out 3).trans rfl, (blk_cell BK569.out 4).trans rfl, (blk_cell BK569.out 5).trans rfl⟩ (fun hHeld => ?_)
    generalize w93.drew = w94 at BK560 BK569 HI0 HK HB hHeld ⊢
    refine pu 0 19 (bl 7 1) ?_
    refine pu 2 21 (bl 7 5) ?_
    refine tk 1 20 (bl 7 7) ?_ hHeld
    refine oe 3 22 (bl 7 15) (fun K hK => ?_)
    refine gs Try.func65 #[.pointer (some ⟨g, 0, none⟩), .int .i64 20] ?_
    with_reducible refine (spec_l1Rd_pick.calls k g s0_0 t571 20 t572 t573 w0 _ ?side1 ?side2 A7.out).mono ?_
    (case side1 => exact qi HI0)
    (case side2 => exact qb HI0 HB)
    rintro e w95 ⟨rfl, hi, hb, hk⟩
    refine ⟨_, rfl, ?_⟩
    have _ := kv hk (bk BK560) NB560_0
    have _ := kv hk (bk BK569) NB569_0
    have _ := ku (qk _ _ _ HK) hk
    have _ := ra (hb)
    have _ := ra (hi)
    clear BK560 BK569 HK HB HI0
    rename_i BK560 BK569 HK HB HI0
    (try clear hb)
    (try clear hb2)
    (try clear hk)
    (try clear hi)
    refine hK.out _ _ ⟨(blk_cell BK569.out 0).trans rfl, (blk_cell BK569.out 1).trans rfl, (blk_cell BK569.out 2).trans rfl, (blk_cell BK569.out 3).trans rfl, (blk_cell BK569.out 4).trans rfl, (blk_cell BK569.out 5).trans rfl⟩ (fun hHeld => ?_)
    clear hK K
    refine nm 22 ?_
    refine pu 4 23 (bl 7 31) ?_
    refine pu 5 24 (bl 7 63) ?_
    refine last_ (i := 6) (N := none) #[true, true, true, true, true, true, true] rfl rfl (by kernel_rfl) (by decide) (fun K hK => ?_)
    have hs96 : w95.cell? ⟨gb569, 5, none⟩ = some (.int .i64 0) := (blk_cell BK569.out 5).trans rfl
    have hfs96 := blk_frozen BK569.out 5
    have hns96_0 := NB560_569.out
    have hms96_0 := NB569_560.out
    refine skip_ (w1 := ?_) (by rfl) rfl ?_ ?_
    rotate_left
    ·go_simp
     rfl
    refine hK.out _ _ ?_
    clear hK K
    refine done_ (by kernel_rfl) ?_
    try go_wp2_with (first | ((with_reducible refine gate_callee (f := 65) rfl ?_); refine gl (some 26) Try.func65 #[.pointer (some ⟨g, 0, none⟩), .int .i64 24] ?_; (with_reducible refine (spec_l1Rd_pick.calls k g s0_0 t573 24 t574 t575 w0 _ ?side1 ?side2 A8.out).mono ?_); (case side1 => exact qi HI0); (case side2 => exact qb HI0 HB); rintro e w97 ⟨rfl, hi, hb, hk⟩; refine ⟨_, rfl, ?_⟩; have _ := kv hk (bk BK560) NB560_0; have _ := ra (KeepBut.blk hk (g' := gb569) (o := .cells #[.int .i64 t561, .int .i64 t563, .int .i64 t565, .int .i64 (wrap64 (t565 + t570)), .int .i64 t567, .int .i64 (wrap64 (t567 + t572))] 26 (0, 0)) (bp BK569) NB569_0.out (by simp)); have _ := ku (qk _ _ _ HK) hk; have _ := ra (hb); have _ := ra (hi); clear BK560 BK569 HK HB HI0; rename_i BK560 BK569 HK HB HI0; (try clear hb); (try clear hb2); (try clear hk); (try clear hi); obtain ⟨hcz98_0, hcz98_1, hcz98_2, hcz98_3, hcz98_4, hcz98_5, hfz98_0, hfz98_1, hfz98_2, hfz98_3, hfz98_4, hfz98_5⟩ := zc6 BK569; have hnb99 := NB560_0.out; have hnc99 := NB0_560.out; obtain ⟨hcz100_0, hcz100_1, hcz100_2, hcz100_3, hcz100_4, hcz100_5, hfz100_0, hfz100_1, hfz100_2, hfz100_3, hfz100_4, hfz100_5⟩ := zc6 BK560))
    refine bodyPost_ret (results_cell_row rfl _ _ gb560 26 #[.int .i64 t561, .int .i64 t563, .int .i64 t565, .int .i64 (wrap64 (t565 + t570)), .int .i64 t567, .int .i64 (wrap64 (t567 + t572))] (0, 0) _ rfl (bp BK560) Try.underlying26 rfl (by kernel_rfl)) rfl ?_
    exact ⟨re, by exact qi HI0, by exact qb HI0 HB, by exact qk _ _ _ HK⟩
set_option maxHeartbeats 8000000 in
set_option maxRecDepth 100000 in
theorem spec_l1Rd_of.calls (k : Nat) (g : Nat) (s0_0 : List Int) (s0_1 : Int) (A1 : Option Addr) (c1 : Nat) (l1 : List ByteArray) (r1 : ByteArray) (r2 : Int) (w0 w : World) (hI : IsS90 w0 w g s0_0 s0_1) (hB : Below w0.heap.size w0 w) (hr1 : Kd.C Kd.string w A1 l1.length l1) (hc1 : l1.length ≤ c1) (hf1 : ∀ ad, A1 = some ad → 0 < l1.length → ad.block ≠ g) (h : spec_l1Rd_of.f k s0_0 s0_1 l1 = some (r1, r2)) :
  Calls Try.prog 72 #[.pointer (some ⟨g, 0, none⟩), .slice A1 l1.length c1] w fun e w' => e = .returned (.string r1) ∧ IsS90 w0 w' g s0_0 r2 ∧ Below w0.heap.size w0 w' ∧ KeepBut w w' g none := by
 have HR1 := Aside0.mk hr1
 have HC1 := Aside0.mk hc1
 clear hr1 hc1
 have HI0 := Aside0.mk hI
 have HK := ra (KeepBut.refl w g none)
 have HL := Aside0.mk hB.size
 clear hI
 have HW0 := Aside0.mk hB.size
 have HB := Aside0.mk hB
 clear hB
 have H : ((spec_l1Rd_pick.f k s0_0 s0_1 (l1.length : Int)).bind fun bt628 => (if 0 ≤ bt628.1 then (if bt628.1 < (l1.length : Int) then (some (rdOf ByteArray.empty l1 bt628.1, bt628.2)) else (none)) else (none))) = some (r1, r2) := h
 clear h
 obtain ⟨⟨t628, t629⟩, A3, H⟩ := bo H
 try dsimp only at H
 by_cases c4 : 0 ≤ t628
 ·rw [if_pos c4] at H
  have c4b0 : decide (0 ≤ t628) = true := decide_eq_true c4
  clear c4
  by_cases c5 : t628 < (l1.length : Int)
  ·rw [if_pos c5] at H
   have c5b0 : decide (t628 < (l1.length : Int)) = true := decide_eq_true c5
   clear c5
   simp only [Option.some.injEq, Prod.mk.injEq] at H
   obtain ⟨rfl, rfl⟩ := H
   go_enter Try.func72, Try.ntmps72
   go_wp2_with (first | ((with_reducible refine gate_callee (f := 65) rfl ?_); refine gl (some 9) Try.func65 #[.pointer (some ⟨g, 0, none⟩), .int .i64 (l1.length : Int)] ?_; (with_reducible refine (spec_l1Rd_pick.calls k g s0_0 s0_1 (l1.length : Int) t628 t629 w0 _ ?side1 ?side2 A3.out).mono ?_); (case side1 => exact qi HI0); (case side2 => exact qb HI0 HB); rintro e w6 ⟨rfl, hi, hb, hk⟩; refine ⟨_, rfl, ?_⟩; have _ := ku (qk _ _ _ HK) hk; have _ := ra (hb); have _ := ra (hi); clear HK HB HI0; rename_i HK HB HI0; (try clear hb); (try clear hb2); (try clear hk); (try clear hi); have p630 : 0 ≤ (t628 : Int) := od; have q630 : t628 < (l1.length : Int) := od; obtain ⟨ad630, e630, hx630_0⟩ := Kd.at_string HR1.out t628 p630 q630; cases e630; replace hx630_0 := keep_cell HK.out hx630_0 (by first | (rw [add_block]; exact hf1 _ rfl (by omega)) | exact hf1 _ rfl (by omega) | exact hf1 ad630 rfl (by omega)); replace p630 := eq_true p630; replace q630 := eq_true q630))
   go_ret
   exact ⟨re, by exact qi HI0, by exact qb HI0 HB, by exact qk _ _ _ HK⟩
  ·rw [if_neg c5] at H
   exact absurd H (by simp)
 ·rw [if_neg c4] at H
  exact absurd H (by simp)
def spec_l2Copy.T1 : Bool × List (List Nat × List Nat) := (true, [([], []), ([0], [0]), ([], []), ([], []), ([3], [3]), ([2, 4], [2, 4]), ([1, 5], [1, 5]), ([6, 5, 0, 1, 2, 3, 4, 5, 6], [6])])
def spec_l2Copy.B1 : List Nat := [0, 1, 0, 0, 8, 28, 63, 127]
theorem spec_l2Copy.tab1 : rtab .any (opsOf Try.f67 1) = spec_l2Copy.T1 := by kernel_rfl
theorem spec_l2Copy.bits1 : waitsOk spec_l2Copy.T1.2 spec_l2Copy.B1 = true := by kernel_rfl
set_option maxHeartbeats 8000000 in
set_option maxRecDepth 100000 in
theorem spec_l2Copy.calls (a0_0 : ByteArray) (A0_1 : Option Addr) (c0_1 : Nat) (l0_1 : List (S26)) (r1 : ByteArray) (r2 : List (S26)) (w : World) (hr0_1 : Kd.C k26 w A0_1 l0_1.length l0_1) (hc0_1 : l0_1.length ≤ c0_1) (h : spec_l2Copy.f a0_0 l0_1 = some (r1, r2)) :
  Calls Try.prog 67 #[.agg #[.string a0_0, .slice A0_1 l0_1.length c0_1]] w fun e w' => ∃ v1_ : Value, e = .returned (.agg #[.string r1, v1_]) ∧ Kd.R k26 26 w' w.heap.size (fun _ => True) v1_ r2 ∧ Below w.heap.size w w' := by
 have hu39 := Try.underlying39
 have HR0_1 := Aside0.mk hr0_1
 have HC0_1 := Aside0.mk hc0_1
 clear hr0_1 hc0_1
 have HB := ra (Below.refl w.heap.size w)
 have H : ((some (([] : List (S26)) : List (S26))).bind fun y633 => (if y633.length + l0_1.length < 2932031007402 then (some (a0_0, (y633 ++ l0_1))) else (none))) = some (r1, r2) := h
 clear h
 obtain ⟨y633, hy_⟩ : ∃ y_ : List (S26), y_ = (([] : List (S26))) := ⟨_, rfl⟩
 replace H : (if y633.length + l0_1.length < 2932031007402 then (some (a0_0, (y633 ++ l0_1))) else (none)) = some (r1, r2) := yh
 have Ny633 := ra hy_
 clear hy_
 by_cases c2 : y633.length + l0_1.length < 2932031007402
 ·rw [if_pos c2] at H
  have LMc2 := Aside0.mk c2
  clear c2
  obtain ⟨y636, hy_⟩ : ∃ y_ : List (S26), y_ = (y633 ++ l0_1) := ⟨_, rfl⟩
  replace H : (some (a0_0, y636)) = some (r1, r2) := yh
  have Ny636 := ra hy_
  clear hy_
  simp only [Option.some.injEq, Prod.mk.injEq] at H
  obtain ⟨rfl, rfl⟩ := H
  go_enter Try.func67, Try.ntmps67
  try go_wp2_with (first | ((with_reducible refine gate_dst (N := 1) rfl ?_); refine be 1 #[.string a0_0, .slice A0_1 l0_1.length c0_1] 39 ?_; intro gb631 hg w3 hbox hb; have _ := bs hb; have _ := ra (hbox); have _ := bz (w0 := w) hg; have _ := bz (w0 := w) hg; clear HB; rename_i HB BK631 GW631 GE631; clear hb hbox hg) | ((with_reducible refine gate_dst (N := 2) rfl ?_); refine be 2 #[.string (⟨#[]⟩ : ByteArray), .slice none 0 0] 39 ?_; intro gb632 hg w4 hbox hb; have _ := bb (bk BK631) hb; have _ := bs hb; have _ := ra (hbox); have _ := bz (w0 := w) hg; have _ := bz (w0 := w) hg; have _ := bn hg (bk BK631); have _ := bm hg (bk BK631); clear BK631 HB; rename_i BK631 HB BK632 GW632 GE632 NB631_632 NB632_631; clear hb hbox hg))
  have _ := ra (blk_drew BK631.out)
  have _ := ra (blk_drew BK632.out)
  have _ := ra (below_drew1 HB.out)
  clear BK631 BK632 HB
  rename_i BK631 BK632 HB
  refine start_ (n := 8) (S := fun w' => w'.cell? ⟨gb631, 0, none⟩ = some (.string a0_0) ∧ w'.cell? ⟨gb631, 1, none⟩ = some (.slice A0_1 l0_1.length c0_1)) (ds := []) (bl 8 0) (by kernel_rfl) rfl rfl ⟨(blk_cell BK631.out 0).trans rfl, (blk_cell BK631.out 1).trans rfl⟩ (fun hHeld => ?_); refine with_tabW spec_l2Copy.tab1 spec_l2Copy.bits1 (fun HT_ HW_ => ?_)
  generalize w4.drew = w5 at BK631 BK632 HB hHeld ⊢
  refine pu 0 3 (bl 8 1) ?_
  refine pu 3 6 (bl 8 9) ?_
  refine tk 1 4 (bl 8 11) ?_ hHeld
  refine tk 4 7 (bl 8 27) ?_ hHeld
  refine oe 2 5 (bl 8 31) (fun K hK => ?_)
  refine Kd.R_lit_step k26 _ 26 ?hg (N := 5) ?hd (xs := ([] : List (S26))) (inner := []) (ok := fun _ => True) (okp := fun _ => True) ?hr ?hp (fun _ hk => hk) trivial (Below.refl _ _) (Nat.le_refl _) (by simp) ?_; (case hd => rfl); (case hg => rfl); (case hr => first | (go_simp; done) | (go_simp; rfl)); (case hp => exact (Reps.none _ _))
  intro v634 w6 ho7 hb hg_ hnew_
  clear hg_ hnew_
  (first | rw [← Ny633.out] at ho7 | (simp only [Int.reduceToNat] at ho7; rw [← Ny633.out] at ho7))
  have _ := ra (Kd.R_lower ho7 (below_size bq))
  have _ := bb (bk BK631) hb
  have _ := bb (bk BK632) hb
  have _ := bs hb
  clear BK631 BK632 HB
  rename_i HO635 BK631 BK632 HB
  clear hb ho7
  refine hK.out _ _ ⟨(blk_cell BK631.out 0).trans rfl, (blk_cell BK631.out 1).trans rfl⟩ (fun hHeld => ?_)
  clear hK K
  refine nm 5 ?_
  refine oe 5 8 (bl 8 63) (fun K hK => ?_)
  refine Kd.R_append_rows_step k26 (w0 := w) w.heap.size (by rfl) (.tmp 5) (.tmp 7) 37 26 (.agg #[(.int .i64 0), (.int .i64 0), (.int .i64 0), (.int .i64 0), (.int .i64 0), (.int .i64 0)]) 48 rfl Try.underlying37 info26 rfl (by decide) (by omega) v634 y633 l0_1 _ _ _ (fun _ => True) (fun _ => False) rfl rfl ?aO ?aR (fun _ _ h => h) (fun _ h => h.elim) ?aF ?aB ?aS ?aL ?_
  (case aR => exact sc HR0_1)
  (case aB => exact bq)
  (case aF => exact (fun _ _ => trivial))
  (case aO => exact (rq HO635))
  (case aS => exact (below_size bq))
  (case aL => have := LMc2.out; omega)
  intro v637 w8 ho hb hg hat
  rw [← Ny636.out] at ho
  have _ := ra (blk_grown (g := gb631) (o := .cells #[.string a0_0, .slice A0_1 l0_1.length c0_1] 39 (0, 0)) (bk BK631) hg (Kd.R_ne HO635.out BK631.out (by decide)))
  have _ := ra (blk_grown (g := gb632) (o := .cells #[.string (⟨#[]⟩ : ByteArray), .slice none 0 0] 39 (0, 0)) (bk BK632) hg (Kd.R_ne HO635.out BK632.out (by decide)))
  have _ := ra (hb)
  have _ := ra (ho)
  clear BK631 BK632 HB HO635
  rename_i BK631 BK632 HB HO638
  clear ho hb hg hat
  obtain ⟨Ao9, co9, eo9⟩ := Kd.R_slice HO638.out
  (first | subst eo9 | (injection eo9 with f1_ f2_ f3_; have f4_ := f1_.symm; have f5_ := f3_.symm; clear f1_ f2_ f3_; subst f4_; subst f5_))
  refine hK.out _ _ ⟨(blk_cell BK631.out 0).trans rfl, (blk_cell BK631.out 1).trans rfl⟩ (fun hHeld => ?_)
  clear hK K
  refine nm 8 ?_
  refine pu 6 9 (bl 8 127) ?_
  refine one_ (i := 7) (N := none) #[true, true, true, true, true, true, true, true] rfl rfl (one_of HT_.out (by kernel_rfl)) (by decide) (fun K hK => ?_)
  have hs10 : w8.cell? ⟨gb632, 0, none⟩ = some (.string (⟨#[]⟩ : ByteArray)) := (blk_cell BK632.out 0).trans rfl
  have hfs10 := blk_frozen BK632.out 0
  have hns10_0 := NB631_632.out
  have hms10_0 := NB632_631.out
  have hs11 : w8.cell? ⟨gb632, 1, none⟩ = some (.slice none 0 0) := (blk_cell BK632.out 1).trans rfl
  have hfs11 := blk_frozen BK632.out 1
  have hns11_0 := NB631_632.out
  have hms11_0 := NB632_631.out
  refine skip_ (w1 := ?_) (by rfl) rfl ?_ ?_
  rotate_left
  ·go_simp
   rfl
  refine hK.out _ _ ⟨((cell_far (p := ⟨gb632, _, none⟩) NB631_632.out _).trans (((cell_far (p := ⟨gb632, _, none⟩) NB631_632.out _).trans (hHeld.1)))), ((cell_far (p := ⟨gb632, _, none⟩) NB631_632.out _).trans (((cell_far (p := ⟨gb632, _, none⟩) NB631_632.out _).trans (hHeld.2))))⟩ (fun hHeld => ?_)
  clear hK K
  refine done_ (done_of HT_.out (by kernel_rfl)) ?_
  try go_wp2
  refine bodyPost_ret (results_cell_row rfl _ _ gb632 39 #[.string a0_0, .slice Ao9 y636.length co9] (0, 0) _ rfl (bp BK632) Try.underlying39 rfl (by kernel_rfl)) rfl ?_
  exact ⟨_, re, by (with_reducible repeat (first | apply Kd.R_alloc | apply Kd.R_drewN | apply Kd.R_drew)); exact Kd.R_mono (rf (Kd.R_types HO638.out BK632.out (by decide))) (fun _ hk => trivial), bq⟩
 ·rw [if_neg c2] at H
  exact absurd H (by simp)
set_option maxHeartbeats 8000000 in
set_option maxRecDepth 100000 in
theorem spec_l1Many.calls (k : Nat) (a0 : ByteArray) (a1 : Int) (r : ByteArray) (w : World) (h : spec_l1Many.f k a0 a1 = some r) :
  Calls Try.prog 75 #[.string a0, .int .i64 a1] w fun e w' => e = .returned (.string r) ∧ Drawn0 w w' := by
 have H : (spec_l1Many.l0 k a0 a1 (⟨#[]⟩ : ByteArray)) = some r := h
 clear h
 have H' := Aside0.mk H
 clear H
 go_enter Try.func75, Try.ntmps75
 go_wp2
 go_loopg [0, 1, 5] k (fun kq v0 v1 v5 w' => ∃ (x0_1 : ByteArray) (x1_1 : Int) (x5_1 : ByteArray), v0 = .string x0_1 ∧ v1 = .int .i64 x1_1 ∧ v5 = .string x5_1 ∧ Aside0 (spec_l1Many.l0 kq x0_1 x1_1 x5_1 = some r) ∧ Aside0 (kq ≤ k) ∧ Drawn0 w w')
 case atStart => exact ⟨(a0), (a1), ((⟨#[]⟩ : ByteArray)), rs, rs, rs, H', ⟨Nat.le_refl _⟩, by repeat (first | exact Drawn0.refl _ | apply Drawn0.step)⟩
 case round =>
  clear H'
  obtain ⟨x0_1, x1_1, x5_1, rfl, rfl, rfl, HA, HK1, ⟨m1, rfl⟩⟩ := hrel
  cases gk with
  | zero => exact absurd HA.out (by simp [spec_l1Many.l0])
  | succ k1 =>
   have H := HA.out
   clear HA
   simp only [spec_l1Many.l0] at H
   by_cases c3 : x1_1 > 0
   ·rw [if_pos c3] at H
    have c3b0 : decide (0 < x1_1) = true := decide_eq_true c3
    clear c3
    by_cases c4 : (Int.tmod x1_1 2) = 1
    ·rw [if_pos c4] at H
     have c4b0 : ((Int.tmod x1_1 2) == 1) = true := beq_iff_eq.mpr c4
     have c4b1 : ((Int.tmod x1_1 2) != 1) = false := bne_eq_false_iff_eq.mpr c4
     clear c4
     by_cases c5 : x5_1.size + x0_1.size ≤ 9223372036854775807
     ·rw [if_pos c5] at H
      have c5b0 := eq_true c5
      have c5b1 : decide (x5_1.size + x0_1.size ≤ 9223372036854775807) = true := decide_eq_true c5
      try have c5b2 : (9223372036854775807 < x5_1.size + x0_1.size) = False := eq_false (Nat.not_lt.2 c5)
      by_cases c6 : x0_1.size + x0_1.size ≤ 9223372036854775807
      ·rw [if_pos c6] at H
       have c6b0 := eq_true c6
       have c6b1 : decide (x0_1.size + x0_1.size ≤ 9223372036854775807) = true := decide_eq_true c6
       try have c6b2 : (9223372036854775807 < x0_1.size + x0_1.size) = False := eq_false (Nat.not_lt.2 c6)
       have H' := Aside0.mk H
       clear H
       go_wp2
       go_roundg k1
       case measure => have := HK1.out; omega
       case rel => exact ⟨(x0_1 ++ x0_1), (wrap64 (Int.tdiv x1_1 2)), (x5_1 ++ x0_1), rs, rs, rs, H', ⟨by have := HK1.out; omega⟩, by repeat (first | exact Drawn0.refl _ | apply Drawn0.step)⟩
      ·rw [if_neg c6] at H
       exact absurd H (by simp)
     ·rw [if_neg c5] at H
      exact absurd H (by simp)
    ·rw [if_neg c4] at H
     have c4b0 : ((Int.tmod x1_1 2) == 1) = false := beq_eq_false_iff_ne.mpr c4
     have c4b1 : ((Int.tmod x1_1 2) != 1) = true := bne_iff_ne.mpr c4
     by_cases c7 : x0_1.size + x0_1.size ≤ 9223372036854775807
     ·rw [if_pos c7] at H
      have c7b0 := eq_true c7
      have c7b1 : decide (x0_1.size + x0_1.size ≤ 9223372036854775807) = true := decide_eq_true c7
      try have c7b2 : (9223372036854775807 < x0_1.size + x0_1.size) = False := eq_false (Nat.not_lt.2 c7)
      have H' := Aside0.mk H
      clear H
      go_wp2
      go_roundg k1
      case measure => have := HK1.out; omega
      case rel => exact ⟨(x0_1 ++ x0_1), (wrap64 (Int.tdiv x1_1 2)), (x5_1), rs, rs, rs, H', ⟨by have := HK1.out; omega⟩, by repeat (first | exact Drawn0.refl _ | apply Drawn0.step)⟩
     ·rw [if_neg c7] at H
      exact absurd H (by simp)
   ·rw [if_neg c3] at H
    have c3b0 : decide (0 < x1_1) = false := decide_eq_false c3
    clear c3
    obtain rfl := Option.some.inj H
    go_wp2
    go_ret
    exact ⟨by first | rfl | (simp; done) | (simp [*]; done), by repeat (first | exact Drawn0.refl _ | apply Drawn0.step)⟩
def spec_l1SpoilBox.T8 : Bool × List (List Nat × List Nat) := (true, [([], []), ([0], [0]), ([1], [1]), ([], []), ([3], [3]), ([2, 4], [2, 4]), ([], []), ([6], [6]), ([5, 7], [5, 7]), ([8], [8]), ([0, 1, 2, 3, 4, 5, 6, 7, 8, 9], []), ([10, 9, 7, 0, 1, 2, 3, 4, 5, 6, 7, 8, 9], [9, 10])])
def spec_l1SpoilBox.B8 : List Nat := [0, 1, 3, 0, 8, 31, 0, 64, 255, 511, 1023, 2047]
theorem spec_l1SpoilBox.tab8 : rtab .any (opsOf Try.f76 8) = spec_l1SpoilBox.T8 := by kernel_rfl
theorem spec_l1SpoilBox.bits8 : waitsOk spec_l1SpoilBox.T8.2 spec_l1SpoilBox.B8 = true := by kernel_rfl
def spec_l1SpoilBox.T12 : Bool × List (List Nat × List Nat) := (true, [([], []), ([0], [0]), ([], []), ([2], [2]), ([3], [3]), ([1, 4], [1, 4]), ([], []), ([6], [6]), ([5, 7], [5, 7]), ([8], [8]), ([0, 1, 2, 3, 4, 5, 6, 7, 8, 9], []), ([10, 9, 7, 0, 1, 2, 3, 4, 5, 6, 7, 8, 9], [9, 10])])
def spec_l1SpoilBox.B12 : List Nat := [0, 1, 0, 4, 12, 31, 0, 64, 255, 511, 1023, 2047]
theorem spec_l1SpoilBox.tab12 : rtab .any (opsOf Try.f76 12) = spec_l1SpoilBox.T12 := by kernel_rfl
theorem spec_l1SpoilBox.bits12 : waitsOk spec_l1SpoilBox.T12.2 spec_l1SpoilBox.B12 = true := by kernel_rfl
set_option maxHeartbeats 8000000 in
set_option maxRecDepth 100000 in
theorem spec_l1SpoilBox.calls (k : Nat) (g : Nat) (s0_0 : List Int) (s0_1 : Int) (a1_0 : Int) (a1_1 : Int) (a1_2 : Int) (a1_3 : Int) (a1_4 : Int) (a1_5 : Int) (r1 : Int) (r2 : Int) (r3 : Int) (r4 : Int) (r5 : Int) (r6 : Int) (r7 : Int) (w0 w : World) (hI : IsS90 w0 w g s0_0 s0_1) (hB : Below w0.heap.size w0 w) (h : spec_l1SpoilBox.f k s0_0 s0_1 a1_0 a1_1 a1_2 a1_3 a1_4 a1_5 = some (r1, r2, r3, r4, r5, r6, r7)) :
  Calls Try.prog 76 #[.pointer (some ⟨g, 0, none⟩), .agg #[.int .i64 a1_0, .int .i64 a1_1, .int .i64 a1_2, .int .i64 a1_3, .int .i64 a1_4, .int .i64 a1_5]] w fun e w' => e = .returned (.agg #[.int .i64 r1, .int .i64 r2, .int .i64 r3, .int .i64 r4, .int .i64 r5, .int .i64 r6]) ∧ IsS90 w0 w' g s0_0 r7 ∧ Below w0.heap.size w0 w' ∧ KeepBut w w' g none := by
 have hu26 := Try.underlying26
 have HI0 := Aside0.mk hI
 have HK := ra (KeepBut.refl w g none)
 have HL := Aside0.mk hB.size
 clear hI
 have HW0 := Aside0.mk hB.size
 have HB := Aside0.mk hB
 clear hB
 have H : ((spec_l1Rd_pick.f k s0_0 s0_1 6).bind fun bt641 => (if bt641.1 = 0 then ((some (([(-1), 16, (-9223372036854775808), 9223372036854775807] : List Int) : List Int)).bind fun y643 => ((spec_l1Rd_pick.f k s0_0 bt641.2 4).bind fun bt646 => (if 0 ≤ bt646.1 then (if bt646.1 < (y643.length : Int) then (some (rd y643 bt646.1, a1_1, a1_2, a1_3, a1_4, a1_5, bt646.2)) else (none)) else (none)))) else (if bt641.1 = 1 then ((some (([(-1), 16] : List Int) : List Int)).bind fun y649 => ((spec_l1Rd_pick.f k s0_0 bt641.2 2).bind fun bt652 => (if 0 ≤ bt652.1 then (if bt652.1 < (y649.length : Int) then (some (a1_0, rd y649 bt652.1, a1_2, a1_3, a1_4, a1_5, bt652.2)) else (none)) else (none)))) else (if bt641.1 = 2 then ((some (([(-1), wrap64 (a1_3 + 1), a1_3] : List Int) : List Int)).bind fun y655 => ((spec_l1Rd_pick.f k s0_0 bt641.2 3).bind fun bt658 => (if 0 ≤ bt658.1 then (if bt658.1 < (y655.length : Int) then (some (a1_0, a1_1, rd y655 bt658.1, a1_3, a1_4, a1_5, bt658.2)) else (none)) else (none)))) else (if bt641.1 = 3 then ((some (([6, 7] : List Int) : List Int)).bind fun y661 => ((spec_l1Rd_pick.f k s0_0 bt641.2 2).bind fun bt664 => (if 0 ≤ bt664.1 then (if bt664.1 < (y661.length : Int) then (some (a1_0, a1_1, a1_2, rd y661 bt664.1, a1_4, a1_5, bt664.2)) else (none)) else (none)))) else (if bt641.1 = 4 then ((some (([(-1), a1_5, wrap64 (a1_5 + 1)] : List Int) : List Int)).bind fun y667 => ((spec_l1Rd_pick.f k s0_0 bt641.2 3).bind fun bt670 => (if 0 ≤ bt670.1 then (if bt670.1 < (y667.length : Int) then (some (a1_0, a1_1, a1_2, a1_3, rd y667 bt670.1, a1_5, bt670.2)) else (none)) else (none)))) else ((some (([10000, 10001] : List Int) : List Int)).bind fun y673 => ((spec_l1Rd_pick.f k s0_0 bt641.2 2).bind fun bt676 => (if 0 ≤ bt676.1 then (if bt676.1 < (y673.length : Int) then (some (a1_0, a1_1, a1_2, a1_3, a1_4, rd y673 bt676.1, bt676.2)) else (none)) else (none)))))))))) = some (r1, r2, r3, r4, r5, r6, r7) := h
 clear h
 obtain ⟨⟨t641, t642⟩, A3, H⟩ := bo H
 try dsimp only at H
 by_cases c4 : t641 = 0
 ·rw [if_pos c4] at H
  have c4b0 : (t641 == 0) = true := beq_iff_eq.mpr c4
  have c4b1 : (t641 != 0) = false := bne_eq_false_iff_eq.mpr c4
  clear c4
  obtain ⟨y643, hy_⟩ : ∃ y_ : List Int, y_ = (([(-1), 16, (-9223372036854775808), 9223372036854775807] : List Int)) := ⟨_, rfl⟩
  replace H : ((spec_l1Rd_pick.f k s0_0 t642 4).bind fun bt646 => (if 0 ≤ bt646.1 then (if bt646.1 < (y643.length : Int) then (some (rd y643 bt646.1, a1_1, a1_2, a1_3, a1_4, a1_5, bt646.2)) else (none)) else (none))) = some (r1, r2, r3, r4, r5, r6, r7) := yh
  have Ny643 := ra hy_
  clear hy_
  obtain ⟨⟨t646, t647⟩, A5, H⟩ := bo H
  try dsimp only at H
  by_cases c6 : 0 ≤ t646
  ·rw [if_pos c6] at H
   have c6b0 : decide (0 ≤ t646) = true := decide_eq_true c6
   clear c6
   by_cases c7 : t646 < (y643.length : Int)
   ·rw [if_pos c7] at H
    have c7b0 : decide (t646 < (y643.length : Int)) = true := decide_eq_true c7
    clear c7
    simp only [Option.some.injEq, Prod.mk.injEq] at H
    obtain ⟨rfl, rfl, rfl, rfl, rfl, rfl, rfl⟩ := H
    go_enter Try.func76, Try.ntmps76
    go_wp2_with (first | ((with_reducible refine gate_dst (N := 3) rfl ?_); refine be 3 #[.int .i64 a1_0, .int .i64 a1_1, .int .i64 a1_2, .int .i64 a1_3, .int .i64 a1_4, .int .i64 a1_5] 26 ?_; intro gb639 hg w8 hbox hb; have _ := ra (IsS90.below (qi HI0) hb); have _ := kt (qk _ _ _ HK) hb; have _ := ra (below_step (qb HI0 HB) hb); have _ := ra (hbox); have _ := ns hg (qk w _ g HK); have _ := nt hg HW0 (qk w _ g HK); have _ := nl hg (qi HI0); have _ := nr hg (qi HI0); clear HI0 HK HB; rename_i HI0 HK HB BK639 GW639 GE639 NB0_639 NB639_0; clear hb hbox hg) | ((with_reducible refine gate_dst (N := 4) rfl ?_); refine be 4 #[.int .i64 0, .int .i64 0, .int .i64 0, .int .i64 0, .int .i64 0, .int .i64 0] 26 ?_; intro gb640 hg w9 hbox hb; have _ := ra (IsS90.below (qi HI0) hb); have _ := bb (bk BK639) hb; have _ := kt (qk _ _ _ HK) hb; have _ := ra (below_step (qb HI0 HB) hb); have _ := ra (hbox); have _ := ns hg (qk w _ g HK); have _ := nt hg HW0 (qk w _ g HK); have _ := bn hg (bk BK639); have _ := bm hg (bk BK639); have _ := nl hg (qi HI0); have _ := nr hg (qi HI0); clear HI0 BK639 HK HB; rename_i HI0 BK639 HK HB BK640 GW640 GE640 NB639_640 NB640_639 NB0_640 NB640_0; clear hb hbox hg) | ((with_reducible refine gate_callee (f := 65) rfl ?_); refine gl (some 6) Try.func65 #[.pointer (some ⟨g, 0, none⟩), .int .i64 6] ?_; (with_reducible refine (spec_l1Rd_pick.calls k g s0_0 s0_1 6 t641 t642 w0 _ ?side1 ?side2 A3.out).mono ?_); (case side1 => exact qi HI0); (case side2 => exact qb HI0 HB); rintro e w10 ⟨rfl, hi, hb, hk⟩; refine ⟨_, rfl, ?_⟩; have _ := kv hk (bk BK639) NB639_0; have _ := kv hk (bk BK640) NB640_0; have _ := ku (qk _ _ _ HK) hk; have _ := ra (hb); have _ := ra (hi); clear BK639 BK640 HK HB HI0; rename_i BK639 BK640 HK HB HI0; (try clear hb); (try clear hb2); (try clear hk); (try clear hi)) | ((with_reducible refine gate_dst (N := 15) rfl ?_); refine Kd.R_lit (Kd.int .i64) _ 3 ?hg (N := 15) ?hd (xs := ([(-1), 16, (-9223372036854775808), 9223372036854775807] : List Int)) (inner := [.int .i64 (-1), .int .i64 16, .int .i64 (-9223372036854775808), .int .i64 9223372036854775807]) (ok := fun _ => True) (okp := fun _ => True) ?hr ?hp (fun _ hk => hk) trivial (Below.refl _ _) (Nat.le_refl _) (by simp) ?_; (case hd => rfl); (case hg => rfl); (case hr => first | (go_simp; done) | (go_simp; rfl)); (case hp => exact (Reps.one (show Kd.M (Kd.int .i64) _ _ _ (-1) [.int .i64 (-1)] from rfl) (Reps.one (show Kd.M (Kd.int .i64) _ _ _ 16 [.int .i64 16] from rfl) (Reps.one (show Kd.M (Kd.int .i64) _ _ _ (-9223372036854775808) [.int .i64 (-9223372036854775808)] from rfl) (Reps.one (show Kd.M (Kd.int .i64) _ _ _ 9223372036854775807 [.int .i64 9223372036854775807] from rfl) (Reps.none _ _)))))); intro v644 w11 ho12 hb hg_ hnew_; clear hg_ hnew_; (first | rw [← Ny643.out] at ho12 | (simp only [Int.reduceToNat] at ho12; rw [← Ny643.out] at ho12)); have _ := ra (Kd.R_lower ho12 (keep_size (w := w) (g := g) (row := none) (qk _ _ _ HK))); have _ := ra (IsS90.below (qi HI0) hb); have _ := bb (bk BK639) hb; have _ := bb (bk BK640) hb; have _ := kt (qk _ _ _ HK) hb; have _ := ra (below_step (qb HI0 HB) hb); clear HI0 BK639 BK640 HK HB; rename_i HO645 HI0 BK639 BK640 HK HB; clear hb ho12) | ((with_reducible refine gate_callee (f := 65) rfl ?_); refine gl (some 17) Try.func65 #[.pointer (some ⟨g, 0, none⟩), .int .i64 4] ?_; (with_reducible refine (spec_l1Rd_pick.calls k g s0_0 t642 4 t646 t647 w0 _ ?side1 ?side2 A5.out).mono ?_); (case side1 => exact qi HI0); (case side2 => exact qb HI0 HB); rintro e w13 ⟨rfl, hi, hb, hk⟩; refine ⟨_, rfl, ?_⟩; have _ := kv hk (bk BK639) NB639_0; have _ := kv hk (bk BK640) NB640_0; have _ := ra (Kd.R_mono (Kd.R_keep (IsS90.apart (show IsS90 w0 _ g s0_0 t642 from qi HI0) (rq HO645) (by decide)) hk (fun _ h => h.2)) (fun _ h => h.1)); have _ := ku (qk _ _ _ HK) hk; have _ := ra (hb); have _ := ra (hi); clear BK639 BK640 HO645 HK HB HI0; rename_i BK639 BK640 HO645 HK HB HI0; (try clear hb); (try clear hb2); (try clear hk); (try clear hi); obtain ⟨Ao14, co14, eo14⟩ := Kd.R_slice HO645.out; subst eo14; have p648 : 0 ≤ (t646 : Int) := od; have q648 : t646 < (y643.length : Int) := od; obtain ⟨ad648, e648, hx648_0⟩ := Kd.at_int (Kd.R_reads' HO645.out).2.2 t646 p648 q648; cases e648; replace p648 := eq_true p648; replace q648 := eq_true q648; have hnb15 := NB639_640.out; have hnc15 := NB640_639.out; have hnb16 := NB639_0.out; have hnc16 := NB0_639.out; obtain ⟨hcz17_0, hcz17_1, hcz17_2, hcz17_3, hcz17_4, hcz17_5, hfz17_0, hfz17_1, hfz17_2, hfz17_3, hfz17_4, hfz17_5⟩ := zc6 BK639; have hnb18 := NB640_0.out; have hnc18 := NB0_640.out; obtain ⟨hcz19_0, hcz19_1, hcz19_2, hcz19_3, hcz19_4, hcz19_5, hfz19_0, hfz19_1, hfz19_2, hfz19_3, hfz19_4, hfz19_5⟩ := zc6 BK640))
    refine bodyPost_ret (results_cell_row rfl _ _ gb640 26 #[.int .i64 (rd y643 t646), .int .i64 a1_1, .int .i64 a1_2, .int .i64 a1_3, .int .i64 a1_4, .int .i64 a1_5] (0, 0) _ rfl (bp BK640) Try.underlying26 rfl (by kernel_rfl)) rfl ?_
    exact ⟨re, by exact qi HI0, by exact qb HI0 HB, by exact qk _ _ _ HK⟩
   ·rw [if_neg c7] at H
    exact absurd H (by simp)
  ·rw [if_neg c6] at H
   exact absurd H (by simp)
 ·rw [if_neg c4] at H
  have c4b0 : (t641 == 0) = false := beq_eq_false_iff_ne.mpr c4
  have c4b1 : (t641 != 0) = true := bne_iff_ne.mpr c4
  by_cases c20 : t641 = 1
  ·rw [if_pos c20] at H
   have c20b0 : (t641 == 1) = true := beq_iff_eq.mpr c20
   have c20b1 : (t641 != 1) = false := bne_eq_false_iff_eq.mpr c20
   clear c20
   obtain ⟨y649, hy_⟩ : ∃ y_ : List Int, y_ = (([(-1), 16] : List Int)) := ⟨_, rfl⟩
   replace H : ((spec_l1Rd_pick.f k s0_0 t642 2).bind fun bt652 => (if 0 ≤ bt652.1 then (if bt652.1 < (y649.length : Int) then (some (a1_0, rd y649 bt652.1, a1_2, a1_3, a1_4, a1_5, bt652.2)) else (none)) else (none))) = some (r1, r2, r3, r4, r5, r6, r7) := yh
   have Ny649 := ra hy_
   clear hy_
   obtain ⟨⟨t652, t653⟩, A21, H⟩ := bo H
   try dsimp only at H
   by_cases c22 : 0 ≤ t652
   ·rw [if_pos c22] at H
    have c22b0 : decide (0 ≤ t652) = true := decide_eq_true c22
    clear c22
    by_cases c23 : t652 < (y649.length : Int)
    ·rw [if_pos c23] at H
     have c23b0 : decide (t652 < (y649.length : Int)) = true := decide_eq_true c23
     clear c23
     simp only [Option.some.injEq, Prod.mk.injEq] at H
     obtain ⟨rfl, rfl, rfl, rfl, rfl, rfl, rfl⟩ := H
     go_enter Try.func76, Try.ntmps76
     go_wp2_with (first | ((with_reducible refine gate_dst (N := 3) rfl ?_); refine be 3 #[.int .i64 a1_0, .int .i64 a1_1, .int .i64 a1_2, .int .i64 a1_3, .int .i64 a1_4, .int .i64 a1_5] 26 ?_; intro gb639 hg w24 hbox hb; have _ := ra (IsS90.below (qi HI0) hb); have _ := kt (qk _ _ _ HK) hb; have _ := ra (below_step (qb HI0 HB) hb); have _ := ra (hbox); have _ := ns hg (qk w _ g HK); have _ := nt hg HW0 (qk w _ g HK); have _ := nl hg (qi HI0); have _ := nr hg (qi HI0); clear HI0 HK HB; rename_i HI0 HK HB BK639 GW639 GE639 NB0_639 NB639_0; clear hb hbox hg) | ((with_reducible refine gate_dst (N := 4) rfl ?_); refine be 4 #[.int .i64 0, .int .i64 0, .int .i64 0, .int .i64 0, .int .i64 0, .int .i64 0] 26 ?_; intro gb640 hg w25 hbox hb; have _ := ra (IsS90.below (qi HI0) hb); have _ := bb (bk BK639) hb; have _ := kt (qk _ _ _ HK) hb; have _ := ra (below_step (qb HI0 HB) hb); have _ := ra (hbox); have _ := ns hg (qk w _ g HK); have _ := nt hg HW0 (qk w _ g HK); have _ := bn hg (bk BK639); have _ := bm hg (bk BK639); have _ := nl hg (qi HI0); have _ := nr hg (qi HI0); clear HI0 BK639 HK HB; rename_i HI0 BK639 HK HB BK640 GW640 GE640 NB639_640 NB640_639 NB0_640 NB640_0; clear hb hbox hg) | ((with_reducible refine gate_callee (f := 65) rfl ?_); refine gl (some 6) Try.func65 #[.pointer (some ⟨g, 0, none⟩), .int .i64 6] ?_; (with_reducible refine (spec_l1Rd_pick.calls k g s0_0 s0_1 6 t641 t642 w0 _ ?side1 ?side2 A3.out).mono ?_); (case side1 => exact qi HI0); (case side2 => exact qb HI0 HB); rintro e w26 ⟨rfl, hi, hb, hk⟩; refine ⟨_, rfl, ?_⟩; have _ := kv hk (bk BK639) NB639_0; have _ := kv hk (bk BK640) NB640_0; have _ := ku (qk _ _ _ HK) hk; have _ := ra (hb); have _ := ra (hi); clear BK639 BK640 HK HB HI0; rename_i BK639 BK640 HK HB HI0; (try clear hb); (try clear hb2); (try clear hk); (try clear hi)) | ((with_reducible refine gate_dst (N := 23) rfl ?_); refine Kd.R_lit (Kd.int .i64) _ 3 ?hg (N := 23) ?hd (xs := ([(-1), 16] : List Int)) (inner := [.int .i64 (-1), .int .i64 16]) (ok := fun _ => True) (okp := fun _ => True) ?hr ?hp (fun _ hk => hk) trivial (Below.refl _ _) (Nat.le_refl _) (by simp) ?_; (case hd => rfl); (case hg => rfl); (case hr => first | (go_simp; done) | (go_simp; rfl)); (case hp => exact (Reps.one (show Kd.M (Kd.int .i64) _ _ _ (-1) [.int .i64 (-1)] from rfl) (Reps.one (show Kd.M (Kd.int .i64) _ _ _ 16 [.int .i64 16] from rfl) (Reps.none _ _)))); intro v650 w27 ho28 hb hg_ hnew_; clear hg_ hnew_; (first | rw [← Ny649.out] at ho28 | (simp only [Int.reduceToNat] at ho28; rw [← Ny649.out] at ho28)); have _ := ra (Kd.R_lower ho28 (keep_size (w := w) (g := g) (row := none) (qk _ _ _ HK))); have _ := ra (IsS90.below (qi HI0) hb); have _ := bb (bk BK639) hb; have _ := bb (bk BK640) hb; have _ := kt (qk _ _ _ HK) hb; have _ := ra (below_step (qb HI0 HB) hb); clear HI0 BK639 BK640 HK HB; rename_i HO651 HI0 BK639 BK640 HK HB; clear hb ho28) | ((with_reducible refine gate_callee (f := 65) rfl ?_); refine gl (some 25) Try.func65 #[.pointer (some ⟨g, 0, none⟩), .int .i64 2] ?_; (with_reducible refine (spec_l1Rd_pick.calls k g s0_0 t642 2 t652 t653 w0 _ ?side1 ?side2 A21.out).mono ?_); (case side1 => exact qi HI0); (case side2 => exact qb HI0 HB); rintro e w29 ⟨rfl, hi, hb, hk⟩; refine ⟨_, rfl, ?_⟩; have _ := kv hk (bk BK639) NB639_0; have _ := kv hk (bk BK640) NB640_0; have _ := ra (Kd.R_mono (Kd.R_keep (IsS90.apart (show IsS90 w0 _ g s0_0 t642 from qi HI0) (rq HO651) (by decide)) hk (fun _ h => h.2)) (fun _ h => h.1)); have _ := ku (qk _ _ _ HK) hk; have _ := ra (hb); have _ := ra (hi); clear BK639 BK640 HO651 HK HB HI0; rename_i BK639 BK640 HO651 HK HB HI0; (try clear hb); (try clear hb2); (try clear hk); (try clear hi); obtain ⟨Ao30, co30, eo30⟩ := Kd.R_slice HO651.out; subst eo30; have p654 : 0 ≤ (t652 : Int) := od; have q654 : t652 < (y649.length : Int) := od; obtain ⟨ad654, e654, hx654_0⟩ := Kd.at_int (Kd.R_reads' HO651.out).2.2 t652 p654 q654; cases e654; replace p654 := eq_true p654; replace q654 := eq_true q654; have hnb31 := NB639_640.out; have hnc31 := NB640_639.out; have hnb32 := NB639_0.out; have hnc32 := NB0_639.out; obtain ⟨hcz33_0, hcz33_1, hcz33_2, hcz33_3, hcz33_4, hcz33_5, hfz33_0, hfz33_1, hfz33_2, hfz33_3, hfz33_4, hfz33_5⟩ := zc6 BK639; have hnb34 := NB640_0.out; have hnc34 := NB0_640.out; obtain ⟨hcz35_0, hcz35_1, hcz35_2, hcz35_3, hcz35_4, hcz35_5, hfz35_0, hfz35_1, hfz35_2, hfz35_3, hfz35_4, hfz35_5⟩ := zc6 BK640))
     refine bodyPost_ret (results_cell_row rfl _ _ gb640 26 #[.int .i64 a1_0, .int .i64 (rd y649 t652), .int .i64 a1_2, .int .i64 a1_3, .int .i64 a1_4, .int .i64 a1_5] (0, 0) _ rfl (bp BK640) Try.underlying26 rfl (by kernel_rfl)) rfl ?_
     exact ⟨re, by exact qi HI0, by exact qb HI0 HB, by exact qk _ _ _ HK⟩
    ·rw [if_neg c23] at H
     exact absurd H (by simp)
   ·rw [if_neg c22] at H
    exact absurd H (by simp)
  ·rw [if_neg c20] at H
   have c20b0 : (t641 == 1) = false := beq_eq_false_iff_ne.mpr c20
   have c20b1 : (t641 != 1) = true := bne_iff_ne.mpr c20
   by_cases c36 : t641 = 2
   ·rw [if_pos c36] at H
    have c36b0 : (t641 == 2) = true := beq_iff_eq.mpr c36
    have c36b1 : (t641 != 2) = false := bne_eq_false_iff_eq.mpr c36
    clear c36
    obtain ⟨y655, hy_⟩ : ∃ y_ : List Int, y_ = (([(-1), wrap64 (a1_3 + 1), a1_3] : List Int)) := ⟨_, rfl⟩
    replace H : ((spec_l1Rd_pick.f k s0_0 t642 3).bind fun bt658 => (if 0 ≤ bt658.1 then (if bt658.1 < (y655.length : Int) then (some (a1_0, a1_1, rd y655 bt658.1, a1_3, a1_4, a1_5, bt658.2)) else (none)) else (none))) = some (r1, r2, r3, r4, r5, r6, r7) := yh
    have Ny655 := ra hy_
    clear hy_
    obtain ⟨⟨t658, t659⟩, A37, H⟩ := bo H
    try dsimp only at H
    by_cases c38 : 0 ≤ t658
    ·rw [if_pos c38] at H
     have c38b0 : decide (0 ≤ t658) = true := decide_eq_true c38
     clear c38
     by_cases c39 : t658 < (y655.length : Int)
     ·rw [if_pos c39] at H
      have c39b0 : decide (t658 < (y655.length : Int)) = true := decide_eq_true c39
      clear c39
      simp only [Option.some.injEq, Prod.mk.injEq] at H
      obtain ⟨rfl, rfl, rfl, rfl, rfl, rfl, rfl⟩ := H
      go_enter Try.func76, Try.ntmps76
      try go_wp2_with (first | ((with_reducible refine gate_dst (N := 3) rfl ?_); refine be 3 #[.int .i64 a1_0, .int .i64 a1_1, .int .i64 a1_2, .int .i64 a1_3, .int .i64 a1_4, .int .i64 a1_5] 26 ?_; intro gb639 hg w40 hbox hb; have _ := ra (IsS90.below (qi HI0) hb); have _ := kt (qk _ _ _ HK) hb; have _ := ra (below_step (qb HI0 HB) hb); have _ := ra (hbox); have _ := ns hg (qk w _ g HK); have _ := nt hg HW0 (qk w _ g HK); have _ := nl hg (qi HI0); have _ := nr hg (qi HI0); clear HI0 HK HB; rename_i HI0 HK HB BK639 GW639 GE639 NB0_639 NB639_0; clear hb hbox hg) | ((with_reducible refine gate_dst (N := 4) rfl ?_); refine be 4 #[.int .i64 0, .int .i64 0, .int .i64 0, .int .i64 0, .int .i64 0, .int .i64 0] 26 ?_; intro gb640 hg w41 hbox hb; have _ := ra (IsS90.below (qi HI0) hb); have _ := bb (bk BK639) hb; have _ := kt (qk _ _ _ HK) hb; have _ := ra (below_step (qb HI0 HB) hb); have _ := ra (hbox); have _ := ns hg (qk w _ g HK); have _ := nt hg HW0 (qk w _ g HK); have _ := bn hg (bk BK639); have _ := bm hg (bk BK639); have _ := nl hg (qi HI0); have _ := nr hg (qi HI0); clear HI0 BK639 HK HB; rename_i HI0 BK639 HK HB BK640 GW640 GE640 NB639_640 NB640_639 NB0_640 NB640_0; clear hb hbox hg) | ((with_reducible refine gate_callee (f := 65) rfl ?_); refine gl (some 6) Try.func65 #[.pointer (some ⟨g, 0, none⟩), .int .i64 6] ?_; (with_reducible refine (spec_l1Rd_pick.calls k g s0_0 s0_1 6 t641 t642 w0 _ ?side1 ?side2 A3.out).mono ?_); (case side1 => exact qi HI0); (case side2 => exact qb HI0 HB); rintro e w42 ⟨rfl, hi, hb, hk⟩; refine ⟨_, rfl, ?_⟩; have _ := kv hk (bk BK639) NB639_0; have _ := kv hk (bk BK640) NB640_0; have _ := ku (qk _ _ _ HK) hk; have _ := ra (hb); have _ := ra (hi); clear BK639 BK640 HK HB HI0; rename_i BK639 BK640 HK HB HI0; (try clear hb); (try clear hb2); (try clear hk); (try clear hi)))
      have pi660 : (0 ≤ (t658 : Int)) = True := eq_true (od)
      have qi660 : (t658 < (y655.length : Int)) = True := eq_true (od)
      have _ := ra (blk_drew BK639.out)
      have _ := ra (blk_drew BK640.out)
      have _ := ra (IsS90.drew HI0.out)
      have _ := ra (keep_drew HK.out)
      have _ := ra (below_drew1 HB.out)
      clear BK639 BK640 HI0 HK HB
      rename_i BK639 BK640 HI0 HK HB
      refine start_ (n := 12) (S := fun w' => w'.cell? ⟨gb639, 0, none⟩ = some (.int .i64 a1_0) ∧ w'.cell? ⟨gb639, 1, none⟩ = some (.int .i64 a1_1) ∧ w'.cell? ⟨gb639, 2, none⟩ = some (.int .i64 a1_2) ∧ w'.cell? ⟨gb639, 3, none⟩ = some (.int .i64 a1_3) ∧ w'.cell? ⟨gb639, 4, none⟩ = some (.int .i64 a1_4) ∧ w'.cell? ⟨gb639, 5, none⟩ = some (.int .i64 a1_5)) (ds := [11]) #[false, false, false, false, false, false, false, false, false, false, false, false] (by kernel_rfl) rfl rfl ⟨(blk_cell BK639.out 0).trans rfl, (blk_cell BK639.out 1).trans rfl, (blk_cell BK639.out 2).trans rfl, (blk_cell BK639.out 3).trans rfl, (blk_cell BK639.out 4).trans rfl, (blk_cell BK639.out 5).trans rfl⟩ (fun hHeld => ?_); refine with_tabW spec_l1SpoilBox.tab8 spec_l1SpoilBox.bits8 (fun HT_ HW_ => ?_)
      generalize w42.drew = w43 at BK639 BK640 HI0 HK HB hHeld ⊢
      refine pu 0 31 (bl 12 1) ?_
      refine pu 3 34 (bl 12 9) ?_
      refine pu 6 37 (bl 12 73) ?_
      refine tk 1 32 (bl 12 75) ?_ hHeld
      refine pu 2 33 (bl 12 79) ?_
      refine tk 4 35 (bl 12 95) ?_ hHeld
      refine join_ (σ := Value × Addr) 4 #[true, true, true, true, true, true, true, true, false, false, false, false] (fun s_ => [(36, s_.1), (38, .int .i64 t658)]) (fun s_ w' => (w'.cell? ⟨gb639, 0, none⟩ = some (.int .i64 a1_0) ∧ w'.cell? ⟨gb639, 1, none⟩ = some (.int .i64 a1_1) ∧ w'.cell? ⟨gb639, 2, none⟩ = some (.int .i64 a1_2) ∧ w'.cell? ⟨gb639, 3, none⟩ = some (.int .i64 a1_3) ∧ w'.cell? ⟨gb639, 4, none⟩ = some (.int .i64 a1_4) ∧ w'.cell? ⟨gb639, 5, none⟩ = some (.int .i64 a1_5)) ∧ (Kd.R (Kd.int .i64) 3 w' w.heap.size (fun _ => True) s_.1 y655) ∧ (∃ c_, (s_.1 : Value) = .slice (some s_.2) y655.length c_) ∧ (w'.heap[gb639]? = some (.cells #[.int .i64 a1_0, .int .i64 a1_1, .int .i64 a1_2, .int .i64 a1_3, .int .i64 a1_4, .int .i64 a1_5] 26 (0, 0))) ∧ (w'.heap[gb640]? = some (.cells #[.int .i64 0, .int .i64 0, .int .i64 0, .int .i64 0, .int .i64 0, .int .i64 0] 26 (0, 0))) ∧ (IsS90 w0 w' g s0_0 t659) ∧ (KeepBut w w' g none) ∧ (Below w0.heap.size w0 w')) ?_ ?_
      rotate_left
      ·intro hCont
       refine two_ (i := 5) (j := 7) (Ni := some 36) (Nj := some 38) #[true, true, true, true, true, true, true, false, false, false, false, false] #[true, true, true, true, true, false, true, true, false, false, false, false] rfl rfl rfl rfl (two_of HT_.out (by kernel_rfl)) (by decide) (by decide) (fun K hK => ?_) (fun K hK => ?_)
       ·skip
        refine Kd.R_lit_step (Kd.int .i64) _ 3 ?hg (N := 36) ?hd (xs := ([(-1), wrap64 (a1_3 + 1), a1_3] : List Int)) (inner := [.int .i64 (-1), .int .i64 (wrap64 (a1_3 + 1)), .int .i64 a1_3]) (ok := fun _ => True) (okp := fun _ => True) ?hr ?hp (fun _ hk => hk) trivial (Below.refl _ _) (Nat.le_refl _) (by simp) ?_; (case hd => rfl); (case hg => rfl); (case hr => first | (go_simp; done) | (go_simp; rfl)); (case hp => exact (Reps.one (show Kd.M (Kd.int .i64) _ _ _ (-1) [.int .i64 (-1)] from rfl) (Reps.one (show Kd.M (Kd.int .i64) _ _ _ (wrap64 (a1_3 + 1)) [.int .i64 (wrap64 (a1_3 + 1))] from rfl) (Reps.one (show Kd.M (Kd.int .i64) _ _ _ a1_3 [.int .i64 a1_3] from rfl) (Reps.none _ _)))))
        intro v656 w44 ho45 hb hg_ hnew_
        clear hg_ hnew_
        (first | rw [← Ny655.out] at ho45 | (simp only [Int.reduceToNat] at ho45; rw [← Ny655.out] at ho45))
        have _ := ra (Kd.R_lower ho45 (keep_size (w := w) (g := g) (row := none) (qk _ _ _ HK)))
        have _ := ra (IsS90.below (qi HI0) hb)
        have _ := bb (bk BK639) hb
        have _ := bb (bk BK640) hb
        have _ := kt (qk _ _ _ HK) hb
        have _ := ra (below_step (qb HI0 HB) hb)
        clear HI0 BK639 BK640 HK HB
        rename_i HO657 HI0 BK639 BK640 HK HB
        clear hb ho45
        obtain ⟨Ao46, co46, eo46⟩ := Kd.R_slice HO657.out
        subst eo46
        obtain ⟨ado46, fo46, _⟩ := Kd.at_int (Kd.R_reads' HO657.out).2.2 0 (by decide) (by rw [Ny655.out]; simp)
        cases fo46
        refine hK.out _ _ ⟨(blk_cell BK639.out 0).trans rfl, (blk_cell BK639.out 1).trans rfl, (blk_cell BK639.out 2).trans rfl, (blk_cell BK639.out 3).trans rfl, (blk_cell BK639.out 4).trans rfl, (blk_cell BK639.out 5).trans rfl⟩ (fun hHeld => ?_)
        clear hK K
        refine nm 36 ?_
        refine oe 7 38 (bl 12 255) (fun K hK => ?_)
        refine gs Try.func65 #[.pointer (some ⟨g, 0, none⟩), .int .i64 3] ?_
        with_reducible refine (spec_l1Rd_pick.calls k g s0_0 t642 3 t658 t659 w0 _ ?side1 ?side2 A37.out).mono ?_
        (case side1 => exact qi HI0)
        (case side2 => exact qb HI0 HB)
        rintro e w47 ⟨rfl, hi, hb, hk⟩
        refine ⟨_, rfl, ?_⟩
        have _ := kv hk (bk BK639) NB639_0
        have _ := kv hk (bk BK640) NB640_0
        have _ := ra (Kd.R_mono (Kd.R_keep (IsS90.apart (show IsS90 w0 _ g s0_0 t642 from qi HI0) (rq HO657) (by decide)) hk (fun _ h => h.2)) (fun _ h => h.1))
        have _ := ku (qk _ _ _ HK) hk
        have _ := ra (hb)
        have _ := ra (hi)
        clear BK639 BK640 HO657 HK HB HI0
        rename_i BK639 BK640 HO657 HK HB HI0
        (try clear hb)
        (try clear hb2)
        (try clear hk)
        (try clear hi)
        refine hK.out _ _ ⟨(blk_cell BK639.out 0).trans rfl, (blk_cell BK639.out 1).trans rfl, (blk_cell BK639.out 2).trans rfl, (blk_cell BK639.out 3).trans rfl, (blk_cell BK639.out 4).trans rfl, (blk_cell BK639.out 5).trans rfl⟩ (fun hHeld => ?_)
        clear hK K
        refine nm 38 ?_
        exact norm_ (by simp only [putAll, Act.put, List.setIfInBounds_toArray, List.set_cons_zero, List.set_cons_succ]) (hCont (.slice (some ado46) y655.length co46, ado46) _ ⟨hHeld, (rq HO657), ⟨_, rfl⟩, (bk BK639), (bk BK640), (qi HI0), (qk _ _ _ HK), (qb HI0 HB)⟩)
       ·skip
        refine gs Try.func65 #[.pointer (some ⟨g, 0, none⟩), .int .i64 3] ?_
        with_reducible refine (spec_l1Rd_pick.calls k g s0_0 t642 3 t658 t659 w0 _ ?side1 ?side2 A37.out).mono ?_
        (case side1 => exact qi HI0)
        (case side2 => exact qb HI0 HB)
        rintro e w44 ⟨rfl, hi, hb, hk⟩
        refine ⟨_, rfl, ?_⟩
        have _ := kv hk (bk BK639) NB639_0
        have _ := kv hk (bk BK640) NB640_0
        have _ := ku (qk _ _ _ HK) hk
        have _ := ra (hb)
        have _ := ra (hi)
        clear BK639 BK640 HK HB HI0
        rename_i BK639 BK640 HK HB HI0
        (try clear hb)
        (try clear hb2)
        (try clear hk)
        (try clear hi)
        refine hK.out _ _ ⟨(blk_cell BK639.out 0).trans rfl, (blk_cell BK639.out 1).trans rfl, (blk_cell BK639.out 2).trans rfl, (blk_cell BK639.out 3).trans rfl, (blk_cell BK639.out 4).trans rfl, (blk_cell BK639.out 5).trans rfl⟩ (fun hHeld => ?_)
        clear hK K
        refine nm 38 ?_
        refine oe 5 36 (bl 12 255) (fun K hK => ?_)
        refine Kd.R_lit_step (Kd.int .i64) _ 3 ?hg (N := 36) ?hd (xs := ([(-1), wrap64 (a1_3 + 1), a1_3] : List Int)) (inner := [.int .i64 (-1), .int .i64 (wrap64 (a1_3 + 1)), .int .i64 a1_3]) (ok := fun _ => True) (okp := fun _ => True) ?hr ?hp (fun _ hk => hk) trivial (Below.refl _ _) (Nat.le_refl _) (by simp) ?_; (case hd => rfl); (case hg => rfl); (case hr => first | (go_simp; done) | (go_simp; rfl)); (case hp => exact (Reps.one (show Kd.M (Kd.int .i64) _ _ _ (-1) [.int .i64 (-1)] from rfl) (Reps.one (show Kd.M (Kd.int .i64) _ _ _ (wrap64 (a1_3 + 1)) [.int .i64 (wrap64 (a1_3 + 1))] from rfl) (Reps.one (show Kd.M (Kd.int .i64) _ _ _ a1_3 [.int .i64 a1_3] from rfl) (Reps.none _ _)))))
        intro v656 w45 ho46 hb hg_ hnew_
        clear hg_ hnew_
        (first | rw [← Ny655.out] at ho46 | (simp only [Int.reduceToNat] at ho46; rw [← Ny655.out] at ho46))
        have _ := ra (Kd.R_lower ho46 (keep_size (w := w) (g := g) (row := none) (qk _ _ _ HK)))
        have _ := ra (IsS90.below (qi HI0) hb)
        have _ := bb (bk BK639) hb
        have _ := bb (bk BK640) hb
        have _ := kt (qk _ _ _ HK) hb
        have _ := ra (below_step (qb HI0 HB) hb)
        clear HI0 BK639 BK640 HK HB
        rename_i HO657 HI0 BK639 BK640 HK HB
        clear hb ho46
        obtain ⟨Ao47, co47, eo47⟩ := Kd.R_slice HO657.out
        subst eo47
        obtain ⟨ado47, fo47, _⟩ := Kd.at_int (Kd.R_reads' HO657.out).2.2 0 (by decide) (by rw [Ny655.out]; simp)
        cases fo47
        refine hK.out _ _ ⟨(blk_cell BK639.out 0).trans rfl, (blk_cell BK639.out 1).trans rfl, (blk_cell BK639.out 2).trans rfl, (blk_cell BK639.out 3).trans rfl, (blk_cell BK639.out 4).trans rfl, (blk_cell BK639.out 5).trans rfl⟩ (fun hHeld => ?_)
        clear hK K
        refine nm 36 ?_
        exact norm_ (by simp only [putAll, Act.put, List.setIfInBounds_toArray, List.set_cons_zero, List.set_cons_succ]) (hCont (.slice (some ado47) y655.length co47, ado47) _ ⟨hHeld, (rq HO657), ⟨_, rfl⟩, (bk BK639), (bk BK640), (qi HI0), (qk _ _ _ HK), (qb HI0 HB)⟩)
      rintro ⟨v656, adz_v656⟩ w48 ⟨hS_, h0_, h1_, h2_, h3_, h4_, h5_, h6_⟩
      have _ : Aside0 (Kd.R (Kd.int .i64) 3 w48 w.heap.size (fun _ => True) v656 y655) := ⟨h0_⟩
      have _ : Aside0 (∃ c_, (v656 : Value) = .slice (some adz_v656) y655.length c_) := ⟨h1_⟩
      have _ : Aside0 (w48.heap[gb639]? = some (.cells #[.int .i64 a1_0, .int .i64 a1_1, .int .i64 a1_2, .int .i64 a1_3, .int .i64 a1_4, .int .i64 a1_5] 26 (0, 0))) := ⟨h2_⟩
      have _ : Aside0 (w48.heap[gb640]? = some (.cells #[.int .i64 0, .int .i64 0, .int .i64 0, .int .i64 0, .int .i64 0, .int .i64 0] 26 (0, 0))) := ⟨h3_⟩
      have _ : Aside0 (IsS90 w0 w48 g s0_0 t659) := ⟨h4_⟩
      have _ : Aside0 (KeepBut w w48 g none) := ⟨h5_⟩
      have _ : Aside0 (Below w0.heap.size w0 w48) := ⟨h6_⟩
      clear BK639 BK640 HI0 HK HB
      clear h0_ h1_ h2_ h3_ h4_ h5_ h6_
      rename_i HO657 HA_HO657 BK639 BK640 HI0 HK HB
      have hHeld : w48.cell? ⟨gb639, 0, none⟩ = some (.int .i64 a1_0) ∧ w48.cell? ⟨gb639, 1, none⟩ = some (.int .i64 a1_1) ∧ w48.cell? ⟨gb639, 2, none⟩ = some (.int .i64 a1_2) ∧ w48.cell? ⟨gb639, 3, none⟩ = some (.int .i64 a1_3) ∧ w48.cell? ⟨gb639, 4, none⟩ = some (.int .i64 a1_4) ∧ w48.cell? ⟨gb639, 5, none⟩ = some (.int .i64 a1_5) := hS_
      obtain ⟨co49, eo49⟩ := HA_HO657.out
      clear HA_HO657
      subst eo49
      refine norm_ (a' := ?_) ?_ ?_
      rotate_left
      ·simp only [putAll, Act.put, List.setIfInBounds_toArray, List.set_cons_zero, List.set_cons_succ]
       rfl
      refine pu 8 39 (bl 12 511) ?_
      refine oe 9 40 (bl 12 1023) (fun K hK => ?_)
      (have p660 : 0 ≤ (t658 : Int) := od; have q660 : t658 < (y655.length : Int) := od; obtain ⟨ad660, e660, hx660_0⟩ := Kd.at_int (Kd.R_reads' HO657.out).2.2 t658 p660 q660; obtain rfl : adz_v656 = ad660 := (by injection e660))
      refine value_ (w1 := ?_) (v := ?_) (by rfl) rfl ?_ ?_
      rotate_left 2
      ·go_simp
       constructor
       ·rfl
       ·rfl
      clear hx660_0
      refine hK.out _ _ ⟨(blk_cell BK639.out 0).trans rfl, (blk_cell BK639.out 1).trans rfl, (blk_cell BK639.out 2).trans rfl, (blk_cell BK639.out 3).trans rfl, (blk_cell BK639.out 4).trans rfl, (blk_cell BK639.out 5).trans rfl⟩ (fun hHeld => ?_)
      clear hK K
      refine nm 40 ?_
      refine pu 10 41 (bl 12 2047) ?_
      refine last_ (i := 11) (N := none) #[true, true, true, true, true, true, true, true, true, true, true, true] rfl rfl (one_of HT_.out (by kernel_rfl)) (by decide) (fun K hK => ?_)
      have hs50 : w48.cell? ⟨gb639, 2, none⟩ = some (.int .i64 a1_2) := (blk_cell BK639.out 2).trans rfl
      have hfs50 := blk_frozen BK639.out 2
      have hns50_1 := NB640_639.out
      have hms50_1 := NB639_640.out
      refine skip_ (w1 := ?_) (by rfl) rfl ?_ ?_
      rotate_left
      ·go_simp
       rfl
      refine hK.out _ _ ?_
      clear hK K
      refine done_ (done_of HT_.out (by kernel_rfl)) ?_
      have hnb51 := NB639_640.out
      have hnc51 := NB640_639.out
      have hnb52 := NB639_0.out
      have hnc52 := NB0_639.out
      obtain ⟨hcz53_0, hcz53_1, hcz53_2, hcz53_3, hcz53_4, hcz53_5, hfz53_0, hfz53_1, hfz53_2, hfz53_3, hfz53_4, hfz53_5⟩ := zc6 BK639
      have hnb54 := NB640_0.out
      have hnc54 := NB0_640.out
      obtain ⟨hcz55_0, hcz55_1, hcz55_2, hcz55_3, hcz55_4, hcz55_5, hfz55_0, hfz55_1, hfz55_2, hfz55_3, hfz55_4, hfz55_5⟩ := zc6 BK640
      try go_wp2
      refine bodyPost_ret (results_cell_row rfl _ _ gb640 26 #[.int .i64 a1_0, .int .i64 a1_1, .int .i64 (rd y655 t658), .int .i64 a1_3, .int .i64 a1_4, .int .i64 a1_5] (0, 0) _ rfl (bp BK640) Try.underlying26 rfl (by kernel_rfl)) rfl ?_
      exact ⟨re, by exact qi HI0, by exact qb HI0 HB, by exact qk _ _ _ HK⟩
     ·rw [if_neg c39] at H
      exact absurd H (by simp)
    ·rw [if_neg c38] at H
     exact absurd H (by simp)
   ·rw [if_neg c36] at H
    have c36b0 : (t641 == 2) = false := beq_eq_false_iff_ne.mpr c36
    have c36b1 : (t641 != 2) = true := bne_iff_ne.mpr c36
    by_cases c56 : t641 = 3
    ·rw [if_pos c56] at H
     have c56b0 : (t641 == 3) = true := beq_iff_eq.mpr c56
     have c56b1 : (t641 != 3) = false := bne_eq_false_iff_eq.mpr c56
     clear c56
     obtain ⟨y661, hy_⟩ : ∃ y_ : List Int, y_ = (([6, 7] : List Int)) := ⟨_, rfl⟩
     replace H : ((spec_l1Rd_pick.f k s0_0 t642 2).bind fun bt664 => (if 0 ≤ bt664.1 then (if bt664.1 < (y661.length : Int) then (some (a1_0, a1_1, a1_2, rd y661 bt664.1, a1_4, a1_5, bt664.2)) else (none)) else (none))) = some (r1, r2, r3, r4, r5, r6, r7) := yh
     have Ny661 := ra hy_
     clear hy_
     obtain ⟨⟨t664, t665⟩, A57, H⟩ := bo H
     try dsimp only at H
     by_cases c58 : 0 ≤ t664
     ·rw [if_pos c58] at H
      have c58b0 : decide (0 ≤ t664) = true := decide_eq_true c58
      clear c58
      by_cases c59 : t664 < (y661.length : Int)
      ·rw [if_pos c59] at H
       have c59b0 : decide (t664 < (y661.length : Int)) = true := decide_eq_true c59
       clear c59
       simp only [Option.some.injEq, Prod.mk.injEq] at H
       obtain ⟨rfl, rfl, rfl, rfl, rfl, rfl, rfl⟩ := H
       go_enter Try.func76, Try.ntmps76
       go_wp2_with (first | ((with_reducible refine gate_dst (N := 3) rfl ?_); refine be 3 #[.int .i64 a1_0, .int .i64 a1_1, .int .i64 a1_2, .int .i64 a1_3, .int .i64 a1_4, .int .i64 a1_5] 26 ?_; intro gb639 hg w60 hbox hb; have _ := ra (IsS90.below (qi HI0) hb); have _ := kt (qk _ _ _ HK) hb; have _ := ra (below_step (qb HI0 HB) hb); have _ := ra (hbox); have _ := ns hg (qk w _ g HK); have _ := nt hg HW0 (qk w _ g HK); have _ := nl hg (qi HI0); have _ := nr hg (qi HI0); clear HI0 HK HB; rename_i HI0 HK HB BK639 GW639 GE639 NB0_639 NB639_0; clear hb hbox hg) | ((with_reducible refine gate_dst (N := 4) rfl ?_); refine be 4 #[.int .i64 0, .int .i64 0, .int .i64 0, .int .i64 0, .int .i64 0, .int .i64 0] 26 ?_; intro gb640 hg w61 hbox hb; have _ := ra (IsS90.below (qi HI0) hb); have _ := bb (bk BK639) hb; have _ := kt (qk _ _ _ HK) hb; have _ := ra (below_step (qb HI0 HB) hb); have _ := ra (hbox); have _ := ns hg (qk w _ g HK); have _ := nt hg HW0 (qk w _ g HK); have _ := bn hg (bk BK639); have _ := bm hg (bk BK639); have _ := nl hg (qi HI0); have _ := nr hg (qi HI0); clear HI0 BK639 HK HB; rename_i HI0 BK639 HK HB BK640 GW640 GE640 NB639_640 NB640_639 NB0_640 NB640_0; clear hb hbox hg) | ((with_reducible refine gate_callee (f := 65) rfl ?_); refine gl (some 6) Try.func65 #[.pointer (some ⟨g, 0, none⟩), .int .i64 6] ?_; (with_reducible refine (spec_l1Rd_pick.calls k g s0_0 s0_1 6 t641 t642 w0 _ ?side1 ?side2 A3.out).mono ?_); (case side1 => exact qi HI0); (case side2 => exact qb HI0 HB); rintro e w62 ⟨rfl, hi, hb, hk⟩; refine ⟨_, rfl, ?_⟩; have _ := kv hk (bk BK639) NB639_0; have _ := kv hk (bk BK640) NB640_0; have _ := ku (qk _ _ _ HK) hk; have _ := ra (hb); have _ := ra (hi); clear BK639 BK640 HK HB HI0; rename_i BK639 BK640 HK HB HI0; (try clear hb); (try clear hb2); (try clear hk); (try clear hi)) | ((with_reducible refine gate_dst (N := 44) rfl ?_); refine Kd.R_lit (Kd.int .i64) _ 3 ?hg (N := 44) ?hd (xs := ([6, 7] : List Int)) (inner := [.int .i64 6, .int .i64 7]) (ok := fun _ => True) (okp := fun _ => True) ?hr ?hp (fun _ hk => hk) trivial (Below.refl _ _) (Nat.le_refl _) (by simp) ?_; (case hd => rfl); (case hg => rfl); (case hr => first | (go_simp; done) | (go_simp; rfl)); (case hp => exact (Reps.one (show Kd.M (Kd.int .i64) _ _ _ 6 [.int .i64 6] from rfl) (Reps.one (show Kd.M (Kd.int .i64) _ _ _ 7 [.int .i64 7] from rfl) (Reps.none _ _)))); intro v662 w63 ho64 hb hg_ hnew_; clear hg_ hnew_; (first | rw [← Ny661.out] at ho64 | (simp only [Int.reduceToNat] at ho64; rw [← Ny661.out] at ho64)); have _ := ra (Kd.R_lower ho64 (keep_size (w := w) (g := g) (row := none) (qk _ _ _ HK))); have _ := ra (IsS90.below (qi HI0) hb); have _ := bb (bk BK639) hb; have _ := bb (bk BK640) hb; have _ := kt (qk _ _ _ HK) hb; have _ := ra (below_step (qb HI0 HB) hb); clear HI0 BK639 BK640 HK HB; rename_i HO663 HI0 BK639 BK640 HK HB; clear hb ho64) | ((with_reducible refine gate_callee (f := 65) rfl ?_); refine gl (some 46) Try.func65 #[.pointer (some ⟨g, 0, none⟩), .int .i64 2] ?_; (with_reducible refine (spec_l1Rd_pick.calls k g s0_0 t642 2 t664 t665 w0 _ ?side1 ?side2 A57.out).mono ?_); (case side1 => exact qi HI0); (case side2 => exact qb HI0 HB); rintro e w65 ⟨rfl, hi, hb, hk⟩; refine ⟨_, rfl, ?_⟩; have _ := kv hk (bk BK639) NB639_0; have _ := kv hk (bk BK640) NB640_0; have _ := ra (Kd.R_mono (Kd.R_keep (IsS90.apart (show IsS90 w0 _ g s0_0 t642 from qi HI0) (rq HO663) (by decide)) hk (fun _ h => h.2)) (fun _ h => h.1)); have _ := ku (qk _ _ _ HK) hk; have _ := ra (hb); have _ := ra (hi); clear BK639 BK640 HO663 HK HB HI0; rename_i BK639 BK640 HO663 HK HB HI0; (try clear hb); (try clear hb2); (try clear hk); (try clear hi); obtain ⟨Ao66, co66, eo66⟩ := Kd.R_slice HO663.out; subst eo66; have p666 : 0 ≤ (t664 : Int) := od; have q666 : t664 < (y661.length : Int) := od; obtain ⟨ad666, e666, hx666_0⟩ := Kd.at_int (Kd.R_reads' HO663.out).2.2 t664 p666 q666; cases e666; replace p666 := eq_true p666; replace q666 := eq_true q666; have hnb67 := NB639_640.out; have hnc67 := NB640_639.out; have hnb68 := NB639_0.out; have hnc68 := NB0_639.out; obtain ⟨hcz69_0, hcz69_1, hcz69_2, hcz69_3, hcz69_4, hcz69_5, hfz69_0, hfz69_1, hfz69_2, hfz69_3, hfz69_4, hfz69_5⟩ := zc6 BK639; have hnb70 := NB640_0.out; have hnc70 := NB0_640.out; obtain ⟨hcz71_0, hcz71_1, hcz71_2, hcz71_3, hcz71_4, hcz71_5, hfz71_0, hfz71_1, hfz71_2, hfz71_3, hfz71_4, hfz71_5⟩ := zc6 BK640))
       refine bodyPost_ret (results_cell_row rfl _ _ gb640 26 #[.int .i64 a1_0, .int .i64 a1_1, .int .i64 a1_2, .int .i64 (rd y661 t664), .int .i64 a1_4, .int .i64 a1_5] (0, 0) _ rfl (bp BK640) Try.underlying26 rfl (by kernel_rfl)) rfl ?_
       exact ⟨re, by exact qi HI0, by exact qb HI0 HB, by exact qk _ _ _ HK⟩
      ·rw [if_neg c59] at H
       exact absurd H (by simp)
     ·rw [if_neg c58] at H
      exact absurd H (by simp)
    ·rw [if_neg c56] at H
     have c56b0 : (t641 == 3) = false := beq_eq_false_iff_ne.mpr c56
     have c56b1 : (t641 != 3) = true := bne_iff_ne.mpr c56
     by_cases c72 : t641 = 4
     ·rw [if_pos c72] at H
      have c72b0 : (t641 == 4) = true := beq_iff_eq.mpr c72
      have c72b1 : (t641 != 4) = false := bne_eq_false_iff_eq.mpr c72
      clear c72
      obtain ⟨y667, hy_⟩ : ∃ y_ : List Int, y_ = (([(-1), a1_5, wrap64 (a1_5 + 1)] : List Int)) := ⟨_, rfl⟩
      replace H : ((spec_l1Rd_pick.f k s0_0 t642 3).bind fun bt670 => (if 0 ≤ bt670.1 then (if bt670.1 < (y667.length : Int) then (some (a1_0, a1_1, a1_2, a1_3, rd y667 bt670.1, a1_5, bt670.2)) else (none)) else (none))) = some (r1, r2, r3, r4, r5, r6, r7) := yh
      have Ny667 := ra hy_
      clear hy_
      obtain ⟨⟨t670, t671⟩, A73, H⟩ := bo H
      try dsimp only at H
      by_cases c74 : 0 ≤ t670
      ·rw [if_pos c74] at H
       have c74b0 : decide (0 ≤ t670) = true := decide_eq_true c74
       clear c74
       by_cases c75 : t670 < (y667.length : Int)
       ·rw [if_pos c75] at H
        have c75b0 : decide (t670 < (y667.length : Int)) = true := decide_eq_true c75
        clear c75
        simp only [Option.some.injEq, Prod.mk.injEq] at H
        obtain ⟨rfl, rfl, rfl, rfl, rfl, rfl, rfl⟩ := H
        go_enter Try.func76, Try.ntmps76
        try go_wp2_with (first | ((with_reducible refine gate_dst (N := 3) rfl ?_); refine be 3 #[.int .i64 a1_0, .int .i64 a1_1, .int .i64 a1_2, .int .i64 a1_3, .int .i64 a1_4, .int .i64 a1_5] 26 ?_; intro gb639 hg w76 hbox hb; have _ := ra (IsS90.below (qi HI0) hb); have _ := kt (qk _ _ _ HK) hb; have _ := ra (below_step (qb HI0 HB) hb); have _ := ra (hbox); have _ := ns hg (qk w _ g HK); have _ := nt hg HW0 (qk w _ g HK); have _ := nl hg (qi HI0); have _ := nr hg (qi HI0); clear HI0 HK HB; rename_i HI0 HK HB BK639 GW639 GE639 NB0_639 NB639_0; clear hb hbox hg) | ((with_reducible refine gate_dst (N := 4) rfl ?_); refine be 4 #[.int .i64 0, .int .i64 0, .int .i64 0, .int .i64 0, .int .i64 0, .int .i64 0] 26 ?_; intro gb640 hg w77 hbox hb; have _ := ra (IsS90.below (qi HI0) hb); have _ := bb (bk BK639) hb; have _ := kt (qk _ _ _ HK) hb; have _ := ra (below_step (qb HI0 HB) hb); have _ := ra (hbox); have _ := ns hg (qk w _ g HK); have _ := nt hg HW0 (qk w _ g HK); have _ := bn hg (bk BK639); have _ := bm hg (bk BK639); have _ := nl hg (qi HI0); have _ := nr hg (qi HI0); clear HI0 BK639 HK HB; rename_i HI0 BK639 HK HB BK640 GW640 GE640 NB639_640 NB640_639 NB0_640 NB640_0; clear hb hbox hg) | ((with_reducible refine gate_callee (f := 65) rfl ?_); refine gl (some 6) Try.func65 #[.pointer (some ⟨g, 0, none⟩), .int .i64 6] ?_; (with_reducible refine (spec_l1Rd_pick.calls k g s0_0 s0_1 6 t641 t642 w0 _ ?side1 ?side2 A3.out).mono ?_); (case side1 => exact qi HI0); (case side2 => exact qb HI0 HB); rintro e w78 ⟨rfl, hi, hb, hk⟩; refine ⟨_, rfl, ?_⟩; have _ := kv hk (bk BK639) NB639_0; have _ := kv hk (bk BK640) NB640_0; have _ := ku (qk _ _ _ HK) hk; have _ := ra (hb); have _ := ra (hi); clear BK639 BK640 HK HB HI0; rename_i BK639 BK640 HK HB HI0; (try clear hb); (try clear hb2); (try clear hk); (try clear hi)))
        have pi672 : (0 ≤ (t670 : Int)) = True := eq_true (od)
        have qi672 : (t670 < (y667.length : Int)) = True := eq_true (od)
        have _ := ra (blk_drew BK639.out)
        have _ := ra (blk_drew BK640.out)
        have _ := ra (IsS90.drew HI0.out)
        have _ := ra (keep_drew HK.out)
        have _ := ra (below_drew1 HB.out)
        clear BK639 BK640 HI0 HK HB
        rename_i BK639 BK640 HI0 HK HB
        refine start_ (n := 12) (S := fun w' => w'.cell? ⟨gb639, 0, none⟩ = some (.int .i64 a1_0) ∧ w'.cell? ⟨gb639, 1, none⟩ = some (.int .i64 a1_1) ∧ w'.cell? ⟨gb639, 2, none⟩ = some (.int .i64 a1_2) ∧ w'.cell? ⟨gb639, 3, none⟩ = some (.int .i64 a1_3) ∧ w'.cell? ⟨gb639, 4, none⟩ = some (.int .i64 a1_4) ∧ w'.cell? ⟨gb639, 5, none⟩ = some (.int .i64 a1_5)) (ds := [11]) #[false, false, false, false, false, false, false, false, false, false, false, false] (by kernel_rfl) rfl rfl ⟨(blk_cell BK639.out 0).trans rfl, (blk_cell BK639.out 1).trans rfl, (blk_cell BK639.out 2).trans rfl, (blk_cell BK639.out 3).trans rfl, (blk_cell BK639.out 4).trans rfl, (blk_cell BK639.out 5).trans rfl⟩ (fun hHeld => ?_); refine with_tabW spec_l1SpoilBox.tab12 spec_l1SpoilBox.bits12 (fun HT_ HW_ => ?_)
        generalize w78.drew = w79 at BK639 BK640 HI0 HK HB hHeld ⊢
        refine pu 0 52 (bl 12 1) ?_
        refine pu 2 54 (bl 12 5) ?_
        refine pu 6 58 (bl 12 69) ?_
        refine tk 1 53 (bl 12 71) ?_ hHeld
        refine tk 3 55 (bl 12 79) ?_ hHeld
        refine pu 4 56 (bl 12 95) ?_
        refine join_ (σ := Value × Addr) 4 #[true, true, true, true, true, true, true, true, false, false, false, false] (fun s_ => [(57, s_.1), (59, .int .i64 t670)]) (fun s_ w' => (w'.cell? ⟨gb639, 0, none⟩ = some (.int .i64 a1_0) ∧ w'.cell? ⟨gb639, 1, none⟩ = some (.int .i64 a1_1) ∧ w'.cell? ⟨gb639, 2, none⟩ = some (.int .i64 a1_2) ∧ w'.cell? ⟨gb639, 3, none⟩ = some (.int .i64 a1_3) ∧ w'.cell? ⟨gb639, 4, none⟩ = some (.int .i64 a1_4) ∧ w'.cell? ⟨gb639, 5, none⟩ = some (.int .i64 a1_5)) ∧ (Kd.R (Kd.int .i64) 3 w' w.heap.size (fun _ => True) s_.1 y667) ∧ (∃ c_, (s_.1 : Value) = .slice (some s_.2) y667.length c_) ∧ (w'.heap[gb639]? = some (.cells #[.int .i64 a1_0, .int .i64 a1_1, .int .i64 a1_2, .int .i64 a1_3, .int .i64 a1_4, .int .i64 a1_5] 26 (0, 0))) ∧ (w'.heap[gb640]? = some (.cells #[.int .i64 0, .int .i64 0, .int .i64 0, .int .i64 0, .int .i64 0, .int .i64 0] 26 (0, 0))) ∧ (IsS90 w0 w' g s0_0 t671) ∧ (KeepBut w w' g none) ∧ (Below w0.heap.size w0 w')) ?_ ?_
        rotate_left
        ·intro hCont
         refine two_ (i := 5) (j := 7) (Ni := some 57) (Nj := some 59) #[true, true, true, true, true, true, true, false, false, false, false, false] #[true, true, true, true, true, false, true, true, false, false, false, false] rfl rfl rfl rfl (two_of HT_.out (by kernel_rfl)) (by decide) (by decide) (fun K hK => ?_) (fun K hK => ?_)
         ·skip
          refine Kd.R_lit_step (Kd.int .i64) _ 3 ?hg (N := 57) ?hd (xs := ([(-1), a1_5, wrap64 (a1_5 + 1)] : List Int)) (inner := [.int .i64 (-1), .int .i64 a1_5, .int .i64 (wrap64 (a1_5 + 1))]) (ok := fun _ => True) (okp := fun _ => True) ?hr ?hp (fun _ hk => hk) trivial (Below.refl _ _) (Nat.le_refl _) (by simp) ?_; (case hd => rfl); (case hg => rfl); (case hr => first | (go_simp; done) | (go_simp; rfl)); (case hp => exact (Reps.one (show Kd.M (Kd.int .i64) _ _ _ (-1) [.int .i64 (-1)] from rfl) (Reps.one (show Kd.M (Kd.int .i64) _ _ _ a1_5 [.int .i64 a1_5] from rfl) (Reps.one (show Kd.M (Kd.int .i64) _ _ _ (wrap64 (a1_5 + 1)) [.int .i64 (wrap64 (a1_5 + 1))] from rfl) (Reps.none _ _)))))
          intro v668 w80 ho81 hb hg_ hnew_
          clear hg_ hnew_
          (first | rw [← Ny667.out] at ho81 | (simp only [Int.reduceToNat] at ho81; rw [← Ny667.out] at ho81))
          have _ := ra (Kd.R_lower ho81 (keep_size (w := w) (g := g) (row := none) (qk _ _ _ HK)))
          have _ := ra (IsS90.below (qi HI0) hb)
          have _ := bb (bk BK639) hb
          have _ := bb (bk BK640) hb
          have _ := kt (qk _ _ _ HK) hb
          have _ := ra (below_step (qb HI0 HB) hb)
          clear HI0 BK639 BK640 HK HB
          rename_i HO669 HI0 BK639 BK640 HK HB
          clear hb ho81
          obtain ⟨Ao82, co82, eo82⟩ := Kd.R_slice HO669.out
          subst eo82
          obtain ⟨ado82, fo82, _⟩ := Kd.at_int (Kd.R_reads' HO669.out).2.2 0 (by decide) (by rw [Ny667.out]; simp)
          cases fo82
          refine hK.out _ _ ⟨(blk_cell BK639.out 0).trans rfl, (blk_cell BK639.out 1).trans rfl, (blk_cell BK639.out 2).trans rfl, (blk_cell BK639.out 3).trans rfl, (blk_cell BK639.out 4).trans rfl, (blk_cell BK639.out 5).trans rfl⟩ (fun hHeld => ?_)
          clear hK K
          refine nm 57 ?_
          refine oe 7 59 (bl 12 255) (fun K hK => ?_)
          refine gs Try.func65 #[.pointer (some ⟨g, 0, none⟩), .int .i64 3] ?_
          with_reducible refine (spec_l1Rd_pick.calls k g s0_0 t642 3 t670 t671 w0 _ ?side1 ?side2 A73.out).mono ?_
          (case side1 => exact qi HI0)
          (case side2 => exact qb HI0 HB)
          rintro e w83 ⟨rfl, hi, hb, hk⟩
          refine ⟨_, rfl, ?_⟩
          have _ := kv hk (bk BK639) NB639_0
          have _ := kv hk (bk BK640) NB640_0
          have _ := ra (Kd.R_mono (Kd.R_keep (IsS90.apart (show IsS90 w0 _ g s0_0 t642 from qi HI0) (rq HO669) (by decide)) hk (fun _ h => h.2)) (fun _ h => h.1))
          have _ := ku (qk _ _ _ HK) hk
          have _ := ra (hb)
          have _ := ra (hi)
          clear BK639 BK640 HO669 HK HB HI0
          rename_i BK639 BK640 HO669 HK HB HI0
          (try clear hb)
          (try clear hb2)
          (try clear hk)
          (try clear hi)
          refine hK.out _ _ ⟨(blk_cell BK639.out 0).trans rfl, (blk_cell BK639.out 1).trans rfl, (blk_cell BK639.out 2).trans rfl, (blk_cell BK639.out 3).trans rfl, (blk_cell BK639.out 4).trans rfl, (blk_cell BK639.out 5).trans rfl⟩ (fun hHeld => ?_)
          clear hK K
          refine nm 59 ?_
          exact norm_ (by simp only [putAll, Act.put, List.setIfInBounds_toArray, List.set_cons_zero, List.set_cons_succ]) (hCont (.slice (some ado82) y667.length co82, ado82) _ ⟨hHeld, (rq HO669), ⟨_, rfl⟩, (bk BK639), (bk BK640), (qi HI0), (qk _ _ _ HK), (qb HI0 HB)⟩)
         ·skip
          refine gs Try.func65 #[.pointer (some ⟨g, 0, none⟩), .int .i64 3] ?_
          with_reducible refine (spec_l1Rd_pick.calls k g s0_0 t642 3 t670 t671 w0 _ ?side1 ?side2 A73.out).mono ?_
          (case side1 => exact qi HI0)
          (case side2 => exact qb HI0 HB)
          rintro e w80 ⟨rfl, hi, hb, hk⟩
          refine ⟨_, rfl, ?_⟩
          have _ := kv hk (bk BK639) NB639_0
          have _ := kv hk (bk BK640) NB640_0
          have _ := ku (qk _ _ _ HK) hk
          have _ := ra (hb)
          have _ := ra (hi)
          clear BK639 BK640 HK HB HI0
          rename_i BK639 BK640 HK HB HI0
          (try clear hb)
          (try clear hb2)
          (try clear hk)
          (try clear hi)
          refine hK.out _ _ ⟨(blk_cell BK639.out 0).trans rfl, (blk_cell BK639.out 1).trans rfl, (blk_cell BK639.out 2).trans rfl, (blk_cell BK639.out 3).trans rfl, (blk_cell BK639.out 4).trans rfl, (blk_cell BK639.out 5).trans rfl⟩ (fun hHeld => ?_)
          clear hK K
          refine nm 59 ?_
          refine oe 5 57 (bl 12 255) (fun K hK => ?_)
          refine Kd.R_lit_step (Kd.int .i64) _ 3 ?hg (N := 57) ?hd (xs := ([(-1), a1_5, wrap64 (a1_5 + 1)] : List Int)) (inner := [.int .i64 (-1), .int .i64 a1_5, .int .i64 (wrap64 (a1_5 + 1))]) (ok := fun _ => True) (okp := fun _ => True) ?hr ?hp (fun _ hk => hk) trivial (Below.refl _ _) (Nat.le_refl _) (by simp) ?_; (case hd => rfl); (case hg => rfl); (case hr => first | (go_simp; done) | (go_simp; rfl)); (case hp => exact (Reps.one (show Kd.M (Kd.int .i64) _ _ _ (-1) [.int .i64 (-1)] from rfl) (Reps.one (show Kd.M (Kd.int .i64) _ _ _ a1_5 [.int .i64 a1_5] from rfl) (Reps.one (show Kd.M (Kd.int .i64) _ _ _ (wrap64 (a1_5 + 1)) [.int .i64 (wrap64 (a1_5 + 1))] from rfl) (Reps.none _ _)))))
          intro v668 w81 ho82 hb hg_ hnew_
          clear hg_ hnew_
          (first | rw [← Ny667.out] at ho82 | (simp only [Int.reduceToNat] at ho82; rw [← Ny667.out] at ho82))
          have _ := ra (Kd.R_lower ho82 (keep_size (w := w) (g := g) (row := none) (qk _ _ _ HK)))
          have _ := ra (IsS90.below (qi HI0) hb)
          have _ := bb (bk BK639) hb
          have _ := bb (bk BK640) hb
          have _ := kt (qk _ _ _ HK) hb
          have _ := ra (below_step (qb HI0 HB) hb)
          clear HI0 BK639 BK640 HK HB
          rename_i HO669 HI0 BK639 BK640 HK HB
          clear hb ho82
          obtain ⟨Ao83, co83, eo83⟩ := Kd.R_slice HO669.out
          subst eo83
          obtain ⟨ado83, fo83, _⟩ := Kd.at_int (Kd.R_reads' HO669.out).2.2 0 (by decide) (by rw [Ny667.out]; simp)
          cases fo83
          refine hK.out _ _ ⟨(blk_cell BK639.out 0).trans rfl, (blk_cell BK639.out 1).trans rfl, (blk_cell BK639.out 2).trans rfl, (blk_cell BK639.out 3).trans rfl, (blk_cell BK639.out 4).trans rfl, (blk_cell BK639.out 5).trans rfl⟩ (fun hHeld => ?_)
          clear hK K
          refine nm 57 ?_
          exact norm_ (by simp only [putAll, Act.put, List.setIfInBounds_toArray, List.set_cons_zero, List.set_cons_succ]) (hCont (.slice (some ado83) y667.length co83, ado83) _ ⟨hHeld, (rq HO669), ⟨_, rfl⟩, (bk BK639), (bk BK640), (qi HI0), (qk _ _ _ HK), (qb HI0 HB)⟩)
        rintro ⟨v668, adz_v668⟩ w84 ⟨hS_, h0_, h1_, h2_, h3_, h4_, h5_, h6_⟩
        have _ : Aside0 (Kd.R (Kd.int .i64) 3 w84 w.heap.size (fun _ => True) v668 y667) := ⟨h0_⟩
        have _ : Aside0 (∃ c_, (v668 : Value) = .slice (some adz_v668) y667.length c_) := ⟨h1_⟩
        have _ : Aside0 (w84.heap[gb639]? = some (.cells #[.int .i64 a1_0, .int .i64 a1_1, .int .i64 a1_2, .int .i64 a1_3, .int .i64 a1_4, .int .i64 a1_5] 26 (0, 0))) := ⟨h2_⟩
        have _ : Aside0 (w84.heap[gb640]? = some (.cells #[.int .i64 0, .int .i64 0, .int .i64 0, .int .i64 0, .int .i64 0, .int .i64 0] 26 (0, 0))) := ⟨h3_⟩
        have _ : Aside0 (IsS90 w0 w84 g s0_0 t671) := ⟨h4_⟩
        have _ : Aside0 (KeepBut w w84 g none) := ⟨h5_⟩
        have _ : Aside0 (Below w0.heap.size w0 w84) := ⟨h6_⟩
        clear BK639 BK640 HI0 HK HB
        clear h0_ h1_ h2_ h3_ h4_ h5_ h6_
        rename_i HO669 HA_HO669 BK639 BK640 HI0 HK HB
        have hHeld : w84.cell? ⟨gb639, 0, none⟩ = some (.int .i64 a1_0) ∧ w84.cell? ⟨gb639, 1, none⟩ = some (.int .i64 a1_1) ∧ w84.cell? ⟨gb639, 2, none⟩ = some (.int .i64 a1_2) ∧ w84.cell? ⟨gb639, 3, none⟩ = some (.int .i64 a1_3) ∧ w84.cell? ⟨gb639, 4, none⟩ = some (.int .i64 a1_4) ∧ w84.cell? ⟨gb639, 5, none⟩ = some (.int .i64 a1_5) := hS_
        obtain ⟨co85, eo85⟩ := HA_HO669.out
        clear HA_HO669
        subst eo85
        refine norm_ (a' := ?_) ?_ ?_
        rotate_left
        ·simp only [putAll, Act.put, List.setIfInBounds_toArray, List.set_cons_zero, List.set_cons_succ]
         rfl
        refine pu 8 60 (bl 12 511) ?_
        refine oe 9 61 (bl 12 1023) (fun K hK => ?_)
        (have p672 : 0 ≤ (t670 : Int) := od; have q672 : t670 < (y667.length : Int) := od; obtain ⟨ad672, e672, hx672_0⟩ := Kd.at_int (Kd.R_reads' HO669.out).2.2 t670 p672 q672; obtain rfl : adz_v668 = ad672 := (by injection e672))
        refine value_ (w1 := ?_) (v := ?_) (by rfl) rfl ?_ ?_
        rotate_left 2
        ·go_simp
         constructor
         ·rfl
         ·rfl
        clear hx672_0
        refine hK.out _ _ ⟨(blk_cell BK639.out 0).trans rfl, (blk_cell BK639.out 1).trans rfl, (blk_cell BK639.out 2).trans rfl, (blk_cell BK639.out 3).trans rfl, (blk_cell BK639.out 4).trans rfl, (blk_cell BK639.out 5).trans rfl⟩ (fun hHeld => ?_)
        clear hK K
        refine nm 61 ?_
        refine pu 10 62 (bl 12 2047) ?_
        refine last_ (i := 11) (N := none) #[true, true, true, true, true, true, true, true, true, true, true, true] rfl rfl (one_of HT_.out (by kernel_rfl)) (by decide) (fun K hK => ?_)
        have hs86 : w84.cell? ⟨gb639, 4, none⟩ = some (.int .i64 a1_4) := (blk_cell BK639.out 4).trans rfl
        have hfs86 := blk_frozen BK639.out 4
        have hns86_1 := NB640_639.out
        have hms86_1 := NB639_640.out
        refine skip_ (w1 := ?_) (by rfl) rfl ?_ ?_
        rotate_left
        ·go_simp
         rfl
        refine hK.out _ _ ?_
        clear hK K
        refine done_ (done_of HT_.out (by kernel_rfl)) ?_
        have hnb87 := NB639_640.out
        have hnc87 := NB640_639.out
        have hnb88 := NB639_0.out
        have hnc88 := NB0_639.out
        obtain ⟨hcz89_0, hcz89_1, hcz89_2, hcz89_3, hcz89_4, hcz89_5, hfz89_0, hfz89_1, hfz89_2, hfz89_3, hfz89_4, hfz89_5⟩ := zc6 BK639
        have hnb90 := NB640_0.out
        have hnc90 := NB0_640.out
        obtain ⟨hcz91_0, hcz91_1, hcz91_2, hcz91_3, hcz91_4, hcz91_5, hfz91_0, hfz91_1, hfz91_2, hfz91_3, hfz91_4, hfz91_5⟩ := zc6 BK640
        try go_wp2
        refine bodyPost_ret (results_cell_row rfl _ _ gb640 26 #[.int .i64 a1_0, .int .i64 a1_1, .int .i64 a1_2, .int .i64 a1_3, .int .i64 (rd y667 t670), .int .i64 a1_5] (0, 0) _ rfl (bp BK640) Try.underlying26 rfl (by kernel_rfl)) rfl ?_
        exact ⟨re, by exact qi HI0, by exact qb HI0 HB, by exact qk _ _ _ HK⟩
       ·rw [if_neg c75] at H
        exact absurd H (by simp)
      ·rw [if_neg c74] at H
       exact absurd H (by simp)
     ·rw [if_neg c72] at H
      have c72b0 : (t641 == 4) = false := beq_eq_false_iff_ne.mpr c72
      have c72b1 : (t641 != 4) = true := bne_iff_ne.mpr c72
      obtain ⟨y673, hy_⟩ : ∃ y_ : List Int, y_ = (([10000, 10001] : List Int)) := ⟨_, rfl⟩
      replace H : ((spec_l1Rd_pick.f k s0_0 t642 2).bind fun bt676 => (if 0 ≤ bt676.1 then (if bt676.1 < (y673.length : Int) then (some (a1_0, a1_1, a1_2, a1_3, a1_4, rd y673 bt676.1, bt676.2)) else (none)) else (none))) = some (r1, r2, r3, r4, r5, r6, r7) := yh
      have Ny673 := ra hy_
      clear hy_
      obtain ⟨⟨t676, t677⟩, A92, H⟩ := bo H
      try dsimp only at H
      by_cases c93 : 0 ≤ t676
      ·rw [if_pos c93] at H
       have c93b0 : decide (0 ≤ t676) = true := decide_eq_true c93
       clear c93
       by_cases c94 : t676 < (y673.length : Int)
       ·rw [if_pos c94] at H
        have c94b0 : decide (t676 < (y673.length : Int)) = true := decide_eq_true c94
        clear c94
        simp only [Option.some.injEq, Prod.mk.injEq] at H
        obtain ⟨rfl, rfl, rfl, rfl, rfl, rfl, rfl⟩ := H
        go_enter Try.func76, Try.ntmps76
        go_wp2_with (first | ((with_reducible refine gate_dst (N := 3) rfl ?_); refine be 3 #[.int .i64 a1_0, .int .i64 a1_1, .int .i64 a1_2, .int .i64 a1_3, .int .i64 a1_4, .int .i64 a1_5] 26 ?_; intro gb639 hg w95 hbox hb; have _ := ra (IsS90.below (qi HI0) hb); have _ := kt (qk _ _ _ HK) hb; have _ := ra (below_step (qb HI0 HB) hb); have _ := ra (hbox); have _ := ns hg (qk w _ g HK); have _ := nt hg HW0 (qk w _ g HK); have _ := nl hg (qi HI0); have _ := nr hg (qi HI0); clear HI0 HK HB; rename_i HI0 HK HB BK639 GW639 GE639 NB0_639 NB639_0; clear hb hbox hg) | ((with_reducible refine gate_dst (N := 4) rfl ?_); refine be 4 #[.int .i64 0, .int .i64 0, .int .i64 0, .int .i64 0, .int .i64 0, .int .i64 0] 26 ?_; intro gb640 hg w96 hbox hb; have _ := ra (IsS90.below (qi HI0) hb); have _ := bb (bk BK639) hb; have _ := kt (qk _ _ _ HK) hb; have _ := ra (below_step (qb HI0 HB) hb); have _ := ra (hbox); have _ := ns hg (qk w _ g HK); have _ := nt hg HW0 (qk w _ g HK); have _ := bn hg (bk BK639); have _ := bm hg (bk BK639); have _ := nl hg (qi HI0); have _ := nr hg (qi HI0); clear HI0 BK639 HK HB; rename_i HI0 BK639 HK HB BK640 GW640 GE640 NB639_640 NB640_639 NB0_640 NB640_0; clear hb hbox hg) | ((with_reducible refine gate_callee (f := 65) rfl ?_); refine gl (some 6) Try.func65 #[.pointer (some ⟨g, 0, none⟩), .int .i64 6] ?_; (with_reducible refine (spec_l1Rd_pick.calls k g s0_0 s0_1 6 t641 t642 w0 _ ?side1 ?side2 A3.out).mono ?_); (case side1 => exact qi HI0); (case side2 => exact qb HI0 HB); rintro e w97 ⟨rfl, hi, hb, hk⟩; refine ⟨_, rfl, ?_⟩; have _ := kv hk (bk BK639) NB639_0; have _ := kv hk (bk BK640) NB640_0; have _ := ku (qk _ _ _ HK) hk; have _ := ra (hb); have _ := ra (hi); clear BK639 BK640 HK HB HI0; rename_i BK639 BK640 HK HB HI0; (try clear hb); (try clear hb2); (try clear hk); (try clear hi)) | ((with_reducible refine gate_dst (N := 7) rfl ?_); refine Kd.R_lit (Kd.int .i64) _ 3 ?hg (N := 7) ?hd (xs := ([10000, 10001] : List Int)) (inner := [.int .i64 10000, .int .i64 10001]) (ok := fun _ => True) (okp := fun _ => True) ?hr ?hp (fun _ hk => hk) trivial (Below.refl _ _) (Nat.le_refl _) (by simp) ?_; (case hd => rfl); (case hg => rfl); (case hr => first | (go_simp; done) | (go_simp; rfl)); (case hp => exact (Reps.one (show Kd.M (Kd.int .i64) _ _ _ 10000 [.int .i64 10000] from rfl) (Reps.one (show Kd.M (Kd.int .i64) _ _ _ 10001 [.int .i64 10001] from rfl) (Reps.none _ _)))); intro v674 w98 ho99 hb hg_ hnew_; clear hg_ hnew_; (first | rw [← Ny673.out] at ho99 | (simp only [Int.reduceToNat] at ho99; rw [← Ny673.out] at ho99)); have _ := ra (Kd.R_lower ho99 (keep_size (w := w) (g := g) (row := none) (qk _ _ _ HK))); have _ := ra (IsS90.below (qi HI0) hb); have _ := bb (bk BK639) hb; have _ := bb (bk BK640) hb; have _ := kt (qk _ _ _ HK) hb; have _ := ra (below_step (qb HI0 HB) hb); clear HI0 BK639 BK640 HK HB; rename_i HO675 HI0 BK639 BK640 HK HB; clear hb ho99) | ((with_reducible refine gate_callee (f := 65) rfl ?_); refine gl (some 9) Try.func65 #[.pointer (some ⟨g, 0, none⟩), .int .i64 2] ?_; (with_reducible refine (spec_l1Rd_pick.calls k g s0_0 t642 2 t676 t677 w0 _ ?side1 ?side2 A92.out).mono ?_); (case side1 => exact qi HI0); (case side2 => exact qb HI0 HB); rintro e w100 ⟨rfl, hi, hb, hk⟩; refine ⟨_, rfl, ?_⟩; have _ := kv hk (bk BK639) NB639_0; have _ := kv hk (bk BK640) NB640_0; have _ := ra (Kd.R_mono (Kd.R_keep (IsS90.apart (show IsS90 w0 _ g s0_0 t642 from qi HI0) (rq HO675) (by decide)) hk (fun _ h => h.2)) (fun _ h => h.1)); have _ := ku (qk _ _ _ HK) hk; have _ := ra (hb); have _ := ra (hi); clear BK639 BK640 HO675 HK HB HI0; rename_i BK639 BK640 HO675 HK HB HI0; (try clear hb); (try clear hb2); (try clear hk); (try clear hi); obtain ⟨Ao101, co101, eo101⟩ := Kd.R_slice HO675.out; subst eo101; have p678 : 0 ≤ (t676 : Int) := od; have q678 : t676 < (y673.length : Int) := od; obtain ⟨ad678, e678, hx678_0⟩ := Kd.at_int (Kd.R_reads' HO675.out).2.2 t676 p678 q678; cases e678; replace p678 := eq_true p678; replace q678 := eq_true q678; have hnb102 := NB639_640.out; have hnc102 := NB640_639.out; have hnb103 := NB639_0.out; have hnc103 := NB0_639.out; obtain ⟨hcz104_0, hcz104_1, hcz104_2, hcz104_3, hcz104_4, hcz104_5, hfz104_0, hfz104_1, hfz104_2, hfz104_3, hfz104_4, hfz104_5⟩ := zc6 BK639; have hnb105 := NB640_0.out; have hnc105 := NB0_640.out; obtain ⟨hcz106_0, hcz106_1, hcz106_2, hcz106_3, hcz106_4, hcz106_5, hfz106_0, hfz106_1, hfz106_2, hfz106_3, hfz106_4, hfz106_5⟩ := zc6 BK640))
        refine bodyPost_ret (results_cell_row rfl _ _ gb640 26 #[.int .i64 a1_0, .int .i64 a1_1, .int .i64 a1_2, .int .i64 a1_3, .int .i64 a1_4, .int .i64 (rd y673 t676)] (0, 0) _ rfl (bp BK640) Try.underlying26 rfl (by kernel_rfl)) rfl ?_
        exact ⟨re, by exact qi HI0, by exact qb HI0 HB, by exact qk _ _ _ HK⟩
       ·rw [if_neg c94] at H
        exact absurd H (by simp)
      ·rw [if_neg c93] at H
       exact absurd H (by simp)
end Go.Proofs.Ytfoapgcnjnogiaa.PA
