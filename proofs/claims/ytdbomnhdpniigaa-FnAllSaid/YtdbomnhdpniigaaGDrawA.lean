/- Contracts of the functions spec_l1Rd_pick, spec_l1DrawBox, spec_l2Copy, spec_l1Rd_of, spec_l1Many, spec_l1SpoilBox, spec_l1Open. (Began as a print of the kit's tool.) -/
import Derived.Test.YtdbomnhdpniigaaPAd
import Derived.Test.YtdbomnhdpniigaaCx
import Derived.Test.YtdbomnhdpniigaaCz
import Derived.Test.YtdbomnhdpniigaaCy
namespace Go.Proofs.Ytdbomnhdpniigaa.PA
open Go.RowKit Go.Proofs.YtdbomnhdpniigaaW.PrintWords Go.Proofs.YtdbomnhdpniigaaW.PrintLast Go.Proofs.YtdbomnhdpniigaaW.PrintMore Go.Proofs.Ytdbomnhdpniigaa.Z
attribute [local go_sem] max2_int min2_int max_two min_two max_three min_three max_four min_four
set_option linter.unusedVariables false
set_option linter.unusedSimpArgs false
set_option maxHeartbeats 8000000 in
set_option maxRecDepth 100000 in
theorem spec_l1Rd_pick.calls (k : Nat) (g : Nat) (s0_0 : List Int) (s0_1 : Int) (a1 : Int) (r1 : Int) (r2 : Int) (w0 w : World) (hI : IsS127 w0 w g s0_0 s0_1) (hB : Below w0.heap.size w0 w) (h : spec_l1Rd_pick.f k s0_0 s0_1 a1 = some (r1, r2)) :
  Calls Try.prog 87 #[.pointer (some ⟨g, 0, none⟩), .int .i64 a1] w fun e w' => e = .returned (.int .i64 r1) ∧ IsS127 w0 w' g s0_0 r2 ∧ Below w0.heap.size w0 w' ∧ KeepBut w w' g none := by
 have HI0 := Aside0.mk hI
 have HK := ra (KeepBut.refl w g none)
 have HL := Aside0.mk hB.size
 clear hI
 have HW0 := Aside0.mk hB.size
 have HB := Aside0.mk hB
 clear hB
 have H : (if a1 < 1 then (spec_l1Rd_pick.j0 k a1 true s0_0 (wrap64 (s0_1 + 1))) else (spec_l1Rd_pick.j0 k a1 ((s0_0.length : Int) == 0) s0_0 (wrap64 (s0_1 + 1)))) = some (r1, r2) := h
 clear h
 have HC3 := Aside0.mk H
 clear H
 obtain ⟨ASz4_0, cSz4_0, HGz4, hgz4, HSz4_0⟩ := HI0.out
 have hcz4_0 := cellS127_0 HGz4
 have hcz4_1 := cellS127_1 HGz4
 have hfz4_1 := blk_frozen HGz4 1
 clear HGz4 hgz4
 go_enter Try.func87, Try.ntmps87
 go_upto_region 2 with (fail)
 repeat (go_quiet (fail); go_upto_region 2 with (fail))
 go_cut [24] (fun v24 wc => ∃ (kq : Nat) (x24_2 : Bool), v24 = .bool x24_2 ∧ Aside0 (spec_l1Rd_pick.j0 kq a1 x24_2 s0_0 (wrap64 (s0_1 + 1)) = some (r1, r2)) ∧ Aside0 (kq ≤ k) ∧ Aside0 (IsS127 w0 wc g s0_0 (wrap64 (s0_1 + 1))) ∧ Aside0 (KeepBut w wc g none) ∧ Aside0 (Below w0.heap.size w0 wc))
 case first =>
  have H := HC3.out
  clear HC3
  by_cases c5 : a1 < 1
  ·rw [if_pos c5] at H
   have c5b0 : decide (a1 < 1) = true := decide_eq_true c5
   clear c5
   (first | rw [c5b0] | (simp only [i64_w, i32_w]; rw [c5b0]) | skip)
   have H' := Aside0.mk H
   clear H
   go_wp2
   repeat (go_quiet (fail); try go_wp2)
   go_meet
   case rel => exact ⟨_, (true), rs, H', ⟨by first | omega | exact Nat.le_refl _⟩, ⟨by exact qi HI0⟩, ⟨by exact qk _ _ _ HK⟩, ⟨by exact qb HI0 HB⟩⟩
  ·rw [if_neg c5] at H
   have c5b0 : decide (a1 < 1) = false := decide_eq_false c5
   clear c5
   (first | rw [c5b0] | (simp only [i64_w, i32_w]; rw [c5b0]) | skip)
   have H' := Aside0.mk H
   clear H
   obtain ⟨ASz6_0, cSz6_0, HGz6, hgz6, HSz6_0⟩ := HI0.out
   have hcz6_0 := cellS127_0 HGz6
   have hcz6_1 := cellS127_1 HGz6
   have hfz6_1 := blk_frozen HGz6 1
   clear HGz6 hgz6
   go_wp2
   repeat (go_quiet (fail); try go_wp2)
   go_meet
   case rel => exact ⟨_, (((s0_0.length : Int) == 0)), rs, H', ⟨by first | omega | exact Nat.le_refl _⟩, ⟨by exact qi HI0⟩, ⟨by exact qk _ _ _ HK⟩, ⟨by exact qb HI0 HB⟩⟩
 case rest =>
  clear HC3
  try clear c5
  try clear c5b0
  try clear hcz4_0
  try clear hcz4_1
  try clear hcz6_0
  try clear hcz6_1
  try clear hfz4_1
  try clear hfz6_1
  obtain ⟨kq, x24_2, rfl, HA, HJ2, HI0, HK, HB⟩ := hcut
  cases kq with
  | zero => exact absurd HA.out (by simp [spec_l1Rd_pick.j0])
  | succ kj2 =>
   have H := HA.out
   clear HA
   simp only [spec_l1Rd_pick.j0] at H
   by_cases c7 : x24_2 = true
   ·subst c7
    replace H := it H rfl
    simp only [Option.some.injEq, Prod.mk.injEq] at H
    obtain ⟨rfl, rfl⟩ := H
    go_wp2
    repeat (go_quiet (fail); try go_wp2)
    go_ret
    exact ⟨re, by exact qi HI0, by exact qb HI0 HB, by exact qk _ _ _ HK⟩
   ·replace c7 := Bool.eq_false_iff.mpr c7
    subst c7
    have H1 : (if (wrap64 ((wrap64 (s0_1 + 1)) - 1)) < (s0_0.length : Int) then (if 0 ≤ (wrap64 ((wrap64 (s0_1 + 1)) - 1)) then (if a1 = 0 then (none) else (some (Int.tmod (wrap64 (rd s0_0 (wrap64 ((wrap64 (s0_1 + 1)) - 1)))) a1, (wrap64 (s0_1 + 1))))) else (none)) else (if (s0_0.length : Int) = 0 then (none) else (if 0 ≤ (Int.tmod (wrap64 ((wrap64 (s0_1 + 1)) - 1)) (s0_0.length : Int)) then (if (Int.tmod (wrap64 ((wrap64 (s0_1 + 1)) - 1)) (s0_0.length : Int)) < (s0_0.length : Int) then (if 0 ≤ (Int.tmod (wrap64 ((wrap64 ((wrap64 ((wrap64 (s0_1 + 1)) - 1)) * 7)) + 3)) (s0_0.length : Int)) then (if (Int.tmod (wrap64 ((wrap64 ((wrap64 ((wrap64 (s0_1 + 1)) - 1)) * 7)) + 3)) (s0_0.length : Int)) < (s0_0.length : Int) then (if a1 = 0 then (none) else (some (Int.tmod (Go.bits .xor .i64 (wrap64 ((wrap64 ((wrap64 ((wrap64 ((wrap64 (rd s0_0 (Int.tmod (wrap64 ((wrap64 (s0_1 + 1)) - 1)) (s0_0.length : Int)))) * 131)) + (wrap64 ((wrap64 (rd s0_0 (Int.tmod (wrap64 ((wrap64 ((wrap64 ((wrap64 (s0_1 + 1)) - 1)) * 7)) + 3)) (s0_0.length : Int)))) * 1117)))) + (wrap64 ((wrap64 ((wrap64 (s0_1 + 1)) - 1)) * 29)))) + (wrap64 ((wrap64 (Int.tdiv (wrap64 ((wrap64 (s0_1 + 1)) - 1)) (s0_0.length : Int))) * 53)))) (wrap64 (Int.tdiv (wrap64 ((wrap64 ((wrap64 ((wrap64 ((wrap64 (rd s0_0 (Int.tmod (wrap64 ((wrap64 (s0_1 + 1)) - 1)) (s0_0.length : Int)))) * 131)) + (wrap64 ((wrap64 (rd s0_0 (Int.tmod (wrap64 ((wrap64 ((wrap64 ((wrap64 (s0_1 + 1)) - 1)) * 7)) + 3)) (s0_0.length : Int)))) * 1117)))) + (wrap64 ((wrap64 ((wrap64 (s0_1 + 1)) - 1)) * 29)))) + (wrap64 ((wrap64 (Int.tdiv (wrap64 ((wrap64 (s0_1 + 1)) - 1)) (s0_0.length : Int))) * 53)))) 64))) a1, (wrap64 (s0_1 + 1))))) else (none)) else (none)) else (none)) else (none)))) = some (r1, r2) := by rw [if_neg (show ¬ (false = true) by decide)] at H; exact H
    clear H
    have H := H1
    clear H1
    by_cases c8 : (wrap64 ((wrap64 (s0_1 + 1)) - 1)) < (s0_0.length : Int)
    ·rw [if_pos c8] at H
     have c8b0 : decide ((wrap64 ((wrap64 (s0_1 + 1)) - 1)) < (s0_0.length : Int)) = true := decide_eq_true c8
     clear c8
     obtain ⟨ji9, hji9⟩ : ∃ j_ : Int, (wrap64 ((wrap64 (s0_1 + 1)) - 1)) = j_ := ⟨_, rfl⟩
     replace H : (if 0 ≤ (ji9) then (if a1 = 0 then (none) else (some (Int.tmod (wrap64 (rd s0_0 (ji9))) a1, (wrap64 (s0_1 + 1))))) else (none)) = some (r1, r2) := by first | (rw [hji9] at H; exact H) | (simp only [hji9] at H ⊢; exact H)
     (try rw [hji9] at c8b0)
     have hji9w : (IntKind.i64.wrap ((wrap64 (s0_1 + 1)) - 1)) = ji9 := (i64_w _).trans hji9
     by_cases c10 : 0 ≤ (ji9)
     ·rw [if_pos c10] at H
      have c10b0 : decide (0 ≤ (ji9)) = true := decide_eq_true c10
      clear c10
      by_cases c11 : a1 = 0
      ·rw [if_pos c11] at H
       exact absurd H (by simp)
      ·rw [if_neg c11] at H
       have c11b0 : (a1 == 0) = false := beq_eq_false_iff_ne.mpr c11
       have c11b1 : (a1 != 0) = true := bne_iff_ne.mpr c11
       simp only [Option.some.injEq, Prod.mk.injEq] at H
       obtain ⟨rfl, rfl⟩ := H
       obtain ⟨ASz12_0, cSz12_0, HGz12, hgz12, HSz12_0⟩ := HI0.out
       have hcz12_0 := cellS127_0 HGz12
       have hcz12_1 := cellS127_1 HGz12
       have hfz12_1 := blk_frozen HGz12 1
       clear HGz12 hgz12
       have p406 : 0 ≤ ((ji9) : Int) := od
       have q406 : (ji9) < (s0_0.length : Int) := od
       obtain ⟨ad406, e406, hx406_0⟩ := Kd.at_int HSz12_0 (ji9) p406 q406
       cases e406
       replace hx406_0 := pw_cell_below HB.out hx406_0
       replace p406 := eq_true p406
       replace q406 := eq_true q406
       go_wp2
       repeat (go_quiet (fail); try go_wp2)
       go_ret
       exact ⟨by first | rfl | (simp [errW_none, errW_some] <;> rfl) | (simp only [← hji9]; first | rfl | (simp [errW_none, errW_some] <;> rfl)) | (simp [*, errW_none, errW_some] <;> rfl), by exact qi HI0, by exact qb HI0 HB, by exact qk _ _ _ HK⟩
     ·rw [if_neg c10] at H
      exact absurd H (by simp)
    ·rw [if_neg c8] at H
     have c8b0 : decide ((wrap64 ((wrap64 (s0_1 + 1)) - 1)) < (s0_0.length : Int)) = false := decide_eq_false c8
     clear c8
     by_cases c13 : (s0_0.length : Int) = 0
     ·rw [if_pos c13] at H
      exact absurd H (by simp)
     ·rw [if_neg c13] at H
      have c13b0 : ((s0_0.length : Int) == 0) = false := beq_eq_false_iff_ne.mpr c13
      have c13b1 : ((s0_0.length : Int) != 0) = true := bne_iff_ne.mpr c13
      have c13b2 : ¬ (s0_0 = []) := fun h_ => c13 (by rw [h_]; rfl)
      obtain ⟨ji14, hji14⟩ : ∃ j_ : Int, (Int.tmod (wrap64 ((wrap64 (s0_1 + 1)) - 1)) (s0_0.length : Int)) = j_ := ⟨_, rfl⟩
      replace H : (if 0 ≤ (ji14) then (if (ji14) < (s0_0.length : Int) then (if 0 ≤ (Int.tmod (wrap64 ((wrap64 ((wrap64 ((wrap64 (s0_1 + 1)) - 1)) * 7)) + 3)) (s0_0.length : Int)) then (if (Int.tmod (wrap64 ((wrap64 ((wrap64 ((wrap64 (s0_1 + 1)) - 1)) * 7)) + 3)) (s0_0.length : Int)) < (s0_0.length : Int) then (if a1 = 0 then (none) else (some (Int.tmod (Go.bits .xor .i64 (wrap64 ((wrap64 ((wrap64 ((wrap64 ((wrap64 (rd s0_0 (ji14))) * 131)) + (wrap64 ((wrap64 (rd s0_0 (Int.tmod (wrap64 ((wrap64 ((wrap64 ((wrap64 (s0_1 + 1)) - 1)) * 7)) + 3)) (s0_0.length : Int)))) * 1117)))) + (wrap64 ((wrap64 ((wrap64 (s0_1 + 1)) - 1)) * 29)))) + (wrap64 ((wrap64 (Int.tdiv (wrap64 ((wrap64 (s0_1 + 1)) - 1)) (s0_0.length : Int))) * 53)))) (wrap64 (Int.tdiv (wrap64 ((wrap64 ((wrap64 ((wrap64 ((wrap64 (rd s0_0 (ji14))) * 131)) + (wrap64 ((wrap64 (rd s0_0 (Int.tmod (wrap64 ((wrap64 ((wrap64 ((wrap64 (s0_1 + 1)) - 1)) * 7)) + 3)) (s0_0.length : Int)))) * 1117)))) + (wrap64 ((wrap64 ((wrap64 (s0_1 + 1)) - 1)) * 29)))) + (wrap64 ((wrap64 (Int.tdiv (wrap64 ((wrap64 (s0_1 + 1)) - 1)) (s0_0.length : Int))) * 53)))) 64))) a1, (wrap64 (s0_1 + 1))))) else (none)) else (none)) else (none)) else (none)) = some (r1, r2) := by first | (rw [hji14] at H; exact H) | (simp only [hji14] at H ⊢; exact H)
      by_cases c15 : 0 ≤ (ji14)
      ·rw [if_pos c15] at H
       have c15b0 : decide (0 ≤ (ji14)) = true := decide_eq_true c15
       clear c15
       by_cases c16 : (ji14) < (s0_0.length : Int)
       ·rw [if_pos c16] at H
        have c16b0 : decide ((ji14) < (s0_0.length : Int)) = true := decide_eq_true c16
        clear c16
        obtain ⟨ji17, hji17⟩ : ∃ j_ : Int, (Int.tmod (wrap64 ((wrap64 ((wrap64 ((wrap64 (s0_1 + 1)) - 1)) * 7)) + 3)) (s0_0.length : Int)) = j_ := ⟨_, rfl⟩
        replace H : (if 0 ≤ (ji17) then (if (ji17) < (s0_0.length : Int) then (if a1 = 0 then (none) else (some (Int.tmod (Go.bits .xor .i64 (wrap64 ((wrap64 ((wrap64 ((wrap64 ((wrap64 (rd s0_0 (ji14))) * 131)) + (wrap64 ((wrap64 (rd s0_0 (ji17))) * 1117)))) + (wrap64 ((wrap64 ((wrap64 (s0_1 + 1)) - 1)) * 29)))) + (wrap64 ((wrap64 (Int.tdiv (wrap64 ((wrap64 (s0_1 + 1)) - 1)) (s0_0.length : Int))) * 53)))) (wrap64 (Int.tdiv (wrap64 ((wrap64 ((wrap64 ((wrap64 ((wrap64 (rd s0_0 (ji14))) * 131)) + (wrap64 ((wrap64 (rd s0_0 (ji17))) * 1117)))) + (wrap64 ((wrap64 ((wrap64 (s0_1 + 1)) - 1)) * 29)))) + (wrap64 ((wrap64 (Int.tdiv (wrap64 ((wrap64 (s0_1 + 1)) - 1)) (s0_0.length : Int))) * 53)))) 64))) a1, (wrap64 (s0_1 + 1))))) else (none)) else (none)) = some (r1, r2) := by first | (rw [hji17] at H; exact H) | (simp only [hji17] at H ⊢; exact H)
        by_cases c18 : 0 ≤ (ji17)
        ·rw [if_pos c18] at H
         have c18b0 : decide (0 ≤ (ji17)) = true := decide_eq_true c18
         clear c18
         by_cases c19 : (ji17) < (s0_0.length : Int)
         ·rw [if_pos c19] at H
          have c19b0 : decide ((ji17) < (s0_0.length : Int)) = true := decide_eq_true c19
          clear c19
          by_cases c20 : a1 = 0
          ·rw [if_pos c20] at H
           exact absurd H (by simp)
          ·rw [if_neg c20] at H
           have c20b0 : (a1 == 0) = false := beq_eq_false_iff_ne.mpr c20
           have c20b1 : (a1 != 0) = true := bne_iff_ne.mpr c20
           simp only [Option.some.injEq, Prod.mk.injEq] at H
           obtain ⟨rfl, rfl⟩ := H
           obtain ⟨ASz21_0, cSz21_0, HGz21, hgz21, HSz21_0⟩ := HI0.out
           have hcz21_0 := cellS127_0 HGz21
           have hcz21_1 := cellS127_1 HGz21
           have hfz21_1 := blk_frozen HGz21 1
           clear HGz21 hgz21
           have p407 : 0 ≤ ((ji14) : Int) := od
           have q407 : (ji14) < (s0_0.length : Int) := od
           obtain ⟨ad407, e407, hx407_0⟩ := Kd.at_int HSz21_0 (ji14) p407 q407
           cases e407
           replace hx407_0 := pw_cell_below HB.out hx407_0
           replace p407 := eq_true p407
           replace q407 := eq_true q407
           have p408 : 0 ≤ ((ji17) : Int) := od
           have q408 : (ji17) < (s0_0.length : Int) := od
           obtain ⟨ad408, e408, hx408_0⟩ := Kd.at_int HSz21_0 (ji17) p408 q408
           obtain rfl : ad407 = ad408 := (by injection e408)
           replace hx408_0 := pw_cell_below HB.out hx408_0
           replace p408 := eq_true p408
           replace q408 := eq_true q408
           go_wp2
           repeat (go_quiet (fail); try go_wp2)
           go_ret
           exact ⟨by first | rfl | (simp [errW_none, errW_some] <;> rfl) | (simp only [← hji14, ← hji17]; first | rfl | (simp [errW_none, errW_some] <;> rfl)) | (simp [*, errW_none, errW_some] <;> rfl), by exact qi HI0, by exact qb HI0 HB, by exact qk _ _ _ HK⟩
         ·rw [if_neg c19] at H
          exact absurd H (by simp)
        ·rw [if_neg c18] at H
         exact absurd H (by simp)
       ·rw [if_neg c16] at H
        exact absurd H (by simp)
      ·rw [if_neg c15] at H
       exact absurd H (by simp)
set_option maxHeartbeats 8000000 in
set_option maxRecDepth 100000 in
theorem spec_l1DrawBox.calls (k : Nat) (g : Nat) (s0_0 : List Int) (s0_1 : Int) (r1 : Int) (r2 : Int) (r3 : Int) (r4 : Int) (r5 : Int) (r6 : Int) (r7 : Int) (w0 w : World) (hI : IsS127 w0 w g s0_0 s0_1) (hB : Below w0.heap.size w0 w) (h : spec_l1DrawBox.f k s0_0 s0_1 = some (r1, r2, r3, r4, r5, r6, r7)) :
  Calls Try.prog 110 #[.pointer (some ⟨g, 0, none⟩)] w fun e w' => e = .returned (.agg #[.int .i64 r1, .int .i64 r2, .int .i64 r3, .int .i64 r4, .int .i64 r5, .int .i64 r6]) ∧ IsS127 w0 w' g s0_0 r7 ∧ Below w0.heap.size w0 w' ∧ KeepBut w w' g none := by
 have hu95 := Try.underlying95
 have HI0 := Aside0.mk hI
 have HK := ra (KeepBut.refl w g none)
 have HL := Aside0.mk hB.size
 clear hI
 have HW0 := Aside0.mk hB.size
 have HB := Aside0.mk hB
 clear hB
 have H : ((spec_l1Rd_pick.f k s0_0 s0_1 6).bind fun bt410 => ((spec_l1Rd_pick.f k s0_0 bt410.2 6).bind fun bt412 => ((spec_l1Rd_pick.f k s0_0 bt412.2 3).bind fun bt414 => ((spec_l1Rd_pick.f k s0_0 bt414.2 60).bind fun bt416 => ((spec_l1Rd_pick.f k s0_0 bt416.2 3).bind fun bt419 => ((spec_l1Rd_pick.f k s0_0 bt419.2 20).bind fun bt421 => ((spec_l1Rd_pick.f k s0_0 bt421.2 24).bind fun bt423 => (if bt423.1 = 0 then ((spec_l1Rd_pick.f k s0_0 bt423.2 2).bind fun bt425 => (some (wrap64 (15 - bt425.1), bt412.1, bt414.1, wrap64 (bt414.1 + bt419.1), bt416.1, wrap64 (bt416.1 + bt421.1), bt425.2))) else (if bt423.1 = 1 then ((spec_l1Rd_pick.f k s0_0 bt423.2 9).bind fun bt427 => (some (bt410.1, bt412.1, bt414.1, wrap64 (bt414.1 + bt419.1), wrap64 (10000 - bt427.1), 10000, bt427.2))) else (if bt423.1 = 2 then (some (bt410.1, bt412.1, bt414.1, 6, bt416.1, wrap64 (bt416.1 + bt421.1), bt423.2)) else (some (bt410.1, bt412.1, bt414.1, wrap64 (bt414.1 + bt419.1), bt416.1, wrap64 (bt416.1 + bt421.1), bt423.2)))))))))))) = some (r1, r2, r3, r4, r5, r6, r7) := h
 clear h
 obtain ⟨⟨t410, t411⟩, A2, H⟩ := bo H
 try dsimp only at H
 obtain ⟨⟨t412, t413⟩, A3, H⟩ := bo H
 try dsimp only at H
 obtain ⟨⟨t414, t415⟩, A4, H⟩ := bo H
 try dsimp only at H
 obtain ⟨⟨t416, t417⟩, A5, H⟩ := bo H
 try dsimp only at H
 obtain ⟨⟨t419, t420⟩, A6, H⟩ := bo H
 try dsimp only at H
 obtain ⟨⟨t421, t422⟩, A7, H⟩ := bo H
 try dsimp only at H
 obtain ⟨⟨t423, t424⟩, A8, H⟩ := bo H
 try dsimp only at H
 by_cases c9 : t423 = 0
 ·rw [if_pos c9] at H
  have c9b0 : (t423 == 0) = true := beq_iff_eq.mpr c9
  have c9b1 : (t423 != 0) = false := bne_eq_false_iff_eq.mpr c9
  clear c9
  obtain ⟨⟨t425, t426⟩, A10, H⟩ := bo H
  try dsimp only at H
  simp only [Option.some.injEq, Prod.mk.injEq] at H
  obtain ⟨rfl, rfl, rfl, rfl, rfl, rfl, rfl⟩ := H
  go_enter Try.func110, Try.ntmps110
  try go_wp2_with (first | ((with_reducible refine gate_dst (N := 2) rfl ?_); refine be 2 #[.int .i64 0, .int .i64 0, .int .i64 0, .int .i64 0, .int .i64 0, .int .i64 0] 95 ?_; intro gb409 hg w11 hbox hb; have _ := ra (IsS127.below (qi HI0) hb); have _ := kt (qk _ _ _ HK) hb; have _ := ra (below_step (qb HI0 HB) hb); have _ := ra (hbox); have _ := ns hg (qk w _ g HK); have _ := nt hg HW0 (qk w _ g HK); have _ := nl hg (qi HI0); have _ := nr hg (qi HI0); clear HI0 HK HB; rename_i HI0 HK HB BK409 GW409 GE409 NB0_409 NB409_0; clear hb hbox hg) | ((with_reducible refine gate_callee (f := 87) rfl ?_); refine gl (some 5) Try.func87 #[.pointer (some ⟨g, 0, none⟩), .int .i64 6] ?_; (with_reducible refine (spec_l1Rd_pick.calls k g s0_0 s0_1 6 t410 t411 w0 _ ?side1 ?side2 A2.out).mono ?_); (case side1 => exact qi HI0); (case side2 => exact qb HI0 HB); rintro e w12 ⟨rfl, hi, hb, hk⟩; refine ⟨_, rfl, ?_⟩; have _ := kv hk (bk BK409) NB409_0; have _ := ku (qk _ _ _ HK) hk; have _ := ra (hb); have _ := ra (hi); clear BK409 HK HB HI0; rename_i BK409 HK HB HI0; (try clear hb); (try clear hb2); (try clear hk); (try clear hi)) | ((with_reducible refine gate_callee (f := 87) rfl ?_); refine gl (some 7) Try.func87 #[.pointer (some ⟨g, 0, none⟩), .int .i64 6] ?_; (with_reducible refine (spec_l1Rd_pick.calls k g s0_0 t411 6 t412 t413 w0 _ ?side1 ?side2 A3.out).mono ?_); (case side1 => exact qi HI0); (case side2 => exact qb HI0 HB); rintro e w13 ⟨rfl, hi, hb, hk⟩; refine ⟨_, rfl, ?_⟩; have _ := kv hk (bk BK409) NB409_0; have _ := ku (qk _ _ _ HK) hk; have _ := ra (hb); have _ := ra (hi); clear BK409 HK HB HI0; rename_i BK409 HK HB HI0; (try clear hb); (try clear hb2); (try clear hk); (try clear hi)) | ((with_reducible refine gate_callee (f := 87) rfl ?_); refine gl (some 9) Try.func87 #[.pointer (some ⟨g, 0, none⟩), .int .i64 3] ?_; (with_reducible refine (spec_l1Rd_pick.calls k g s0_0 t413 3 t414 t415 w0 _ ?side1 ?side2 A4.out).mono ?_); (case side1 => exact qi HI0); (case side2 => exact qb HI0 HB); rintro e w14 ⟨rfl, hi, hb, hk⟩; refine ⟨_, rfl, ?_⟩; have _ := kv hk (bk BK409) NB409_0; have _ := ku (qk _ _ _ HK) hk; have _ := ra (hb); have _ := ra (hi); clear BK409 HK HB HI0; rename_i BK409 HK HB HI0; (try clear hb); (try clear hb2); (try clear hk); (try clear hi)) | ((with_reducible refine gate_callee (f := 87) rfl ?_); refine gl (some 11) Try.func87 #[.pointer (some ⟨g, 0, none⟩), .int .i64 60] ?_; (with_reducible refine (spec_l1Rd_pick.calls k g s0_0 t415 60 t416 t417 w0 _ ?side1 ?side2 A5.out).mono ?_); (case side1 => exact qi HI0); (case side2 => exact qb HI0 HB); rintro e w15 ⟨rfl, hi, hb, hk⟩; refine ⟨_, rfl, ?_⟩; have _ := kv hk (bk BK409) NB409_0; have _ := ku (qk _ _ _ HK) hk; have _ := ra (hb); have _ := ra (hi); clear BK409 HK HB HI0; rename_i BK409 HK HB HI0; (try clear hb); (try clear hb2); (try clear hk); (try clear hi)) | ((with_reducible refine gate_dst (N := 3) rfl ?_); refine be 3 #[.int .i64 0, .int .i64 0, .int .i64 0, .int .i64 0, .int .i64 0, .int .i64 0] 95 ?_; intro gb418 hg w16 hbox hb; have _ := ra (IsS127.below (qi HI0) hb); have _ := bb (bk BK409) hb; have _ := kt (qk _ _ _ HK) hb; have _ := ra (below_step (qb HI0 HB) hb); have _ := ra (hbox); have _ := ns hg (qk w _ g HK); have _ := nt hg HW0 (qk w _ g HK); have _ := bn hg (bk BK409); have _ := bm hg (bk BK409); have _ := nl hg (qi HI0); have _ := nr hg (qi HI0); clear HI0 BK409 HK HB; rename_i HI0 BK409 HK HB BK418 GW418 GE418 NB409_418 NB418_409 NB0_418 NB418_0; clear hb hbox hg; have hnb17 := NB418_409.out; have hnc17 := NB409_418.out; have hnb18 := NB418_0.out; have hnc18 := NB0_418.out; obtain ⟨hcz19_0, hcz19_1, hcz19_2, hcz19_3, hcz19_4, hcz19_5, hfz19_0, hfz19_1, hfz19_2, hfz19_3, hfz19_4, hfz19_5⟩ := zc6 BK418))
  have n0 : Aside0 (((((((w16.setCell ⟨gb418, 0, none⟩ (.int .i64 t410)).setCell ⟨gb418, 1, none⟩ (.int .i64 t412)).setCell ⟨gb418, 2, none⟩ (.int .i64 t414)).setCell ⟨gb418, 3, none⟩ (.int .i64 0)).setCell ⟨gb418, 4, none⟩ (.int .i64 t416)).setCell ⟨gb418, 5, none⟩ (.int .i64 0)).heap[gb409]? = some (.cells #[.int .i64 0, .int .i64 0, .int .i64 0, .int .i64 0, .int .i64 0, .int .i64 0] 95 (0, 0))) := ⟨bk BK409⟩
  have n1 : Aside0 (((((((w16.setCell ⟨gb418, 0, none⟩ (.int .i64 t410)).setCell ⟨gb418, 1, none⟩ (.int .i64 t412)).setCell ⟨gb418, 2, none⟩ (.int .i64 t414)).setCell ⟨gb418, 3, none⟩ (.int .i64 0)).setCell ⟨gb418, 4, none⟩ (.int .i64 t416)).setCell ⟨gb418, 5, none⟩ (.int .i64 0)).heap[gb418]? = some (.cells #[.int .i64 t410, .int .i64 t412, .int .i64 t414, .int .i64 0, .int .i64 t416, .int .i64 0] 95 (0, 0))) := ⟨bp BK418⟩
  have n2 : Aside0 (IsS127 w0 ((((((w16.setCell ⟨gb418, 0, none⟩ (.int .i64 t410)).setCell ⟨gb418, 1, none⟩ (.int .i64 t412)).setCell ⟨gb418, 2, none⟩ (.int .i64 t414)).setCell ⟨gb418, 3, none⟩ (.int .i64 0)).setCell ⟨gb418, 4, none⟩ (.int .i64 t416)).setCell ⟨gb418, 5, none⟩ (.int .i64 0)) g s0_0 t417) := ⟨by exact qi HI0⟩
  have n3 : Aside0 (KeepBut w ((((((w16.setCell ⟨gb418, 0, none⟩ (.int .i64 t410)).setCell ⟨gb418, 1, none⟩ (.int .i64 t412)).setCell ⟨gb418, 2, none⟩ (.int .i64 t414)).setCell ⟨gb418, 3, none⟩ (.int .i64 0)).setCell ⟨gb418, 4, none⟩ (.int .i64 t416)).setCell ⟨gb418, 5, none⟩ (.int .i64 0)) g none) := ⟨by exact qk _ _ _ HK⟩
  have n4 : Aside0 (Below w0.heap.size w0 ((((((w16.setCell ⟨gb418, 0, none⟩ (.int .i64 t410)).setCell ⟨gb418, 1, none⟩ (.int .i64 t412)).setCell ⟨gb418, 2, none⟩ (.int .i64 t414)).setCell ⟨gb418, 3, none⟩ (.int .i64 0)).setCell ⟨gb418, 4, none⟩ (.int .i64 t416)).setCell ⟨gb418, 5, none⟩ (.int .i64 0))) := ⟨by exact qb HI0 HB⟩
  (try clear BK409)
  (try clear BK418)
  (try clear HI0)
  (try clear HK)
  (try clear HB)
  generalize ((((((w16.setCell ⟨gb418, 0, none⟩ (.int .i64 t410)).setCell ⟨gb418, 1, none⟩ (.int .i64 t412)).setCell ⟨gb418, 2, none⟩ (.int .i64 t414)).setCell ⟨gb418, 3, none⟩ (.int .i64 0)).setCell ⟨gb418, 4, none⟩ (.int .i64 t416)).setCell ⟨gb418, 5, none⟩ (.int .i64 0)) = w20 at n0 n1 n2 n3 n4 ⊢
  have BK409 := n0
  have BK418 := n1
  have HI0 := n2
  have HK := n3
  have HB := n4
  clear n0 n1 n2 n3 n4
  have _ := ra (blk_drew BK409.out)
  have _ := ra (blk_drew BK418.out)
  have _ := ra (IsS127.drew HI0.out)
  have _ := ra (keep_drew HK.out)
  have _ := ra (below_drew1 HB.out)
  clear BK409 BK418 HI0 HK HB
  rename_i BK409 BK418 HI0 HK HB
  refine start_ (n := 7) (S := fun w' => w'.cell? ⟨gb418, 0, none⟩ = some (.int .i64 t410) ∧ w'.cell? ⟨gb418, 1, none⟩ = some (.int .i64 t412) ∧ w'.cell? ⟨gb418, 2, none⟩ = some (.int .i64 t414) ∧ w'.cell? ⟨gb418, 3, none⟩ = some (.int .i64 0) ∧ w'.cell? ⟨gb418, 4, none⟩ = some (.int .i64 t416) ∧ w'.cell? ⟨gb418, 5, none⟩ = some (.int .i64 0)) (ds := [6]) #[false, false, false, false, false, false, false] (by kernel_rfl) rfl rfl ⟨(blk_cell BK418.out 0).trans rfl, (blk_cell BK418.out 1).trans rfl, (blk_cell BK418.out 2).trans rfl, (blk_cell BK418.out 3).trans rfl, (blk_cell BK418.out 4).trans rfl, (blk_cell BK418.out 5).trans rfl⟩ (fun hHeld => ?_)
  generalize w20.drew = w21 at BK409 BK418 HI0 HK HB hHeld ⊢
  refine pu 0 13 (bl 7 1) ?_
  refine pu 2 15 (bl 7 5) ?_
  refine tk 1 14 (bl 7 7) ?_ hHeld
  refine oe 3 16 (bl 7 15) (fun K hK => ?_)
  refine gs Try.func87 #[.pointer (some ⟨g, 0, none⟩), .int .i64 3] ?_
  with_reducible refine (spec_l1Rd_pick.calls k g s0_0 t417 3 t419 t420 w0 _ ?side1 ?side2 A6.out).mono ?_
  (case side1 => exact qi HI0)
  (case side2 => exact qb HI0 HB)
  rintro e w22 ⟨rfl, hi, hb, hk⟩
  refine ⟨_, rfl, ?_⟩
  have _ := kv hk (bk BK409) NB409_0
  have _ := kv hk (bk BK418) NB418_0
  have _ := ku (qk _ _ _ HK) hk
  have _ := ra (hb)
  have _ := ra (hi)
  clear BK409 BK418 HK HB HI0
  rename_i BK409 BK418 HK HB HI0
  (try clear hb)
  (try clear hb2)
  (try clear hk)
  (try clear hi)
  refine hK.out _ _ ⟨(blk_cell BK418.out 0).trans rfl, (blk_cell BK418.out 1).trans rfl, (blk_cell BK418.out 2).trans rfl, (blk_cell BK418.out 3).trans rfl, (blk_cell BK418.out 4).trans rfl, (blk_cell BK418.out 5).trans rfl⟩ (fun hHeld => ?_)
  clear hK K
  refine nm 16 ?_
  refine pu 4 17 (bl 7 31) ?_
  refine pu 5 18 (bl 7 63) ?_
  refine last_ (i := 6) (N := none) #[true, true, true, true, true, true, true] rfl rfl (by kernel_rfl) (by decide) (fun K hK => ?_)
  have hs23 : w22.cell? ⟨gb418, 3, none⟩ = some (.int .i64 0) := (blk_cell BK418.out 3).trans rfl
  have hfs23 := blk_frozen BK418.out 3
  have hns23_0 := NB409_418.out
  have hms23_0 := NB418_409.out
  refine skip_ (w1 := ?_) (by rfl) rfl ?_ ?_
  rotate_left
  ·go_simp
   rfl
  refine hK.out _ _ ?_
  clear hK K
  refine done_ (by kernel_rfl) ?_
  try go_wp2
  have n0 : Aside0 ((w22.setCell ⟨gb418, 3, none⟩ (.int .i64 (wrap64 (t414 + t419)))).heap[gb409]? = some (.cells #[.int .i64 0, .int .i64 0, .int .i64 0, .int .i64 0, .int .i64 0, .int .i64 0] 95 (0, 0))) := ⟨bk BK409⟩
  have n1 : Aside0 ((w22.setCell ⟨gb418, 3, none⟩ (.int .i64 (wrap64 (t414 + t419)))).heap[gb418]? = some (.cells #[.int .i64 t410, .int .i64 t412, .int .i64 t414, .int .i64 (wrap64 (t414 + t419)), .int .i64 t416, .int .i64 0] 95 (0, 0))) := ⟨bp BK418⟩
  have n2 : Aside0 (IsS127 w0 (w22.setCell ⟨gb418, 3, none⟩ (.int .i64 (wrap64 (t414 + t419)))) g s0_0 t420) := ⟨by exact qi HI0⟩
  have n3 : Aside0 (KeepBut w (w22.setCell ⟨gb418, 3, none⟩ (.int .i64 (wrap64 (t414 + t419)))) g none) := ⟨by exact qk _ _ _ HK⟩
  have n4 : Aside0 (Below w0.heap.size w0 (w22.setCell ⟨gb418, 3, none⟩ (.int .i64 (wrap64 (t414 + t419))))) := ⟨by exact qb HI0 HB⟩
  (try clear BK409)
  (try clear BK418)
  (try clear HI0)
  (try clear HK)
  (try clear HB)
  generalize (w22.setCell ⟨gb418, 3, none⟩ (.int .i64 (wrap64 (t414 + t419)))) = w24 at n0 n1 n2 n3 n4 ⊢
  have BK409 := n0
  have BK418 := n1
  have HI0 := n2
  have HK := n3
  have HB := n4
  clear n0 n1 n2 n3 n4
  have _ := ra (blk_drew BK409.out)
  have _ := ra (blk_drew BK418.out)
  have _ := ra (IsS127.drew HI0.out)
  have _ := ra (keep_drew HK.out)
  have _ := ra (below_drew1 HB.out)
  clear BK409 BK418 HI0 HK HB
  rename_i BK409 BK418 HI0 HK HB
  refine start_ (n := 7) (S := fun w' => w'.cell? ⟨gb418, 0, none⟩ = some (.int .i64 t410) ∧ w'.cell? ⟨gb418, 1, none⟩ = some (.int .i64 t412) ∧ w'.cell? ⟨gb418, 2, none⟩ = some (.int .i64 t414) ∧ w'.cell? ⟨gb418, 3, none⟩ = some (.int .i64 (wrap64 (t414 + t419))) ∧ w'.cell? ⟨gb418, 4, none⟩ = some (.int .i64 t416) ∧ w'.cell? ⟨gb418, 5, none⟩ = some (.int .i64 0)) (ds := [6]) #[false, false, false, false, false, false, false] (by kernel_rfl) rfl rfl ⟨(blk_cell BK418.out 0).trans rfl, (blk_cell BK418.out 1).trans rfl, (blk_cell BK418.out 2).trans rfl, (blk_cell BK418.out 3).trans rfl, (blk_cell BK418.out 4).trans rfl, (blk_cell BK418.out 5).trans rfl⟩ (fun hHeld => ?_)
  generalize w24.drew = w25 at BK409 BK418 HI0 HK HB hHeld ⊢
  refine pu 0 19 (bl 7 1) ?_
  refine pu 2 21 (bl 7 5) ?_
  refine tk 1 20 (bl 7 7) ?_ hHeld
  refine oe 3 22 (bl 7 15) (fun K hK => ?_)
  refine gs Try.func87 #[.pointer (some ⟨g, 0, none⟩), .int .i64 20] ?_
  with_reducible refine (spec_l1Rd_pick.calls k g s0_0 t420 20 t421 t422 w0 _ ?side1 ?side2 A7.out).mono ?_
  (case side1 => exact qi HI0)
  (case side2 => exact qb HI0 HB)
  rintro e w26 ⟨rfl, hi, hb, hk⟩
  refine ⟨_, rfl, ?_⟩
  have _ := kv hk (bk BK409) NB409_0
  have _ := kv hk (bk BK418) NB418_0
  have _ := ku (qk _ _ _ HK) hk
  have _ := ra (hb)
  have _ := ra (hi)
  clear BK409 BK418 HK HB HI0
  rename_i BK409 BK418 HK HB HI0
  (try clear hb)
  (try clear hb2)
  (try clear hk)
  (try clear hi)
  refine hK.out _ _ ⟨(blk_cell BK418.out 0).trans rfl, (blk_cell BK418.out 1).trans rfl, (blk_cell BK418.out 2).trans rfl, (blk_cell BK418.out 3).trans rfl, (blk_cell BK418.out 4).trans rfl, (blk_cell BK418.out 5).trans rfl⟩ (fun hHeld => ?_)
  clear hK K
  refine nm 22 ?_
  refine pu 4 23 (bl 7 31) ?_
  refine pu 5 24 (bl 7 63) ?_
  refine last_ (i := 6) (N := none) #[true, true, true, true, true, true, true] rfl rfl (by kernel_rfl) (by decide) (fun K hK => ?_)
  have hs27 : w26.cell? ⟨gb418, 5, none⟩ = some (.int .i64 0) := (blk_cell BK418.out 5).trans rfl
  have hfs27 := blk_frozen BK418.out 5
  have hns27_0 := NB409_418.out
  have hms27_0 := NB418_409.out
  refine skip_ (w1 := ?_) (by rfl) rfl ?_ ?_
  rotate_left
  ·go_simp
   rfl
  refine hK.out _ _ ?_
  clear hK K
  refine done_ (by kernel_rfl) ?_
  try go_wp2_with (first | ((with_reducible refine gate_callee (f := 87) rfl ?_); refine gl (some 26) Try.func87 #[.pointer (some ⟨g, 0, none⟩), .int .i64 24] ?_; (with_reducible refine (spec_l1Rd_pick.calls k g s0_0 t422 24 t423 t424 w0 _ ?side1 ?side2 A8.out).mono ?_); (case side1 => exact qi HI0); (case side2 => exact qb HI0 HB); rintro e w28 ⟨rfl, hi, hb, hk⟩; refine ⟨_, rfl, ?_⟩; have _ := kv hk (bk BK409) NB409_0; have _ := ra (KeepBut.blk hk (g' := gb418) (o := .cells #[.int .i64 t410, .int .i64 t412, .int .i64 t414, .int .i64 (wrap64 (t414 + t419)), .int .i64 t416, .int .i64 (wrap64 (t416 + t421))] 95 (0, 0)) (bp BK418) NB418_0.out (by simp)); have _ := ku (qk _ _ _ HK) hk; have _ := ra (hb); have _ := ra (hi); clear BK409 BK418 HK HB HI0; rename_i BK409 BK418 HK HB HI0; (try clear hb); (try clear hb2); (try clear hk); (try clear hi)) | ((with_reducible refine gate_callee (f := 87) rfl ?_); refine gl (some 30) Try.func87 #[.pointer (some ⟨g, 0, none⟩), .int .i64 2] ?_; (with_reducible refine (spec_l1Rd_pick.calls k g s0_0 t424 2 t425 t426 w0 _ ?side1 ?side2 A10.out).mono ?_); (case side1 => exact qi HI0); (case side2 => exact qb HI0 HB); rintro e w29 ⟨rfl, hi, hb, hk⟩; refine ⟨_, rfl, ?_⟩; have _ := kv hk (bk BK409) NB409_0; have _ := kv hk (bk BK418) NB418_0; have _ := ku (qk _ _ _ HK) hk; have _ := ra (hb); have _ := ra (hi); clear BK409 BK418 HK HB HI0; rename_i BK409 BK418 HK HB HI0; (try clear hb); (try clear hb2); (try clear hk); (try clear hi); obtain ⟨hcz30_0, hcz30_1, hcz30_2, hcz30_3, hcz30_4, hcz30_5, hfz30_0, hfz30_1, hfz30_2, hfz30_3, hfz30_4, hfz30_5⟩ := zc6 BK418; have hnb31 := NB409_0.out; have hnc31 := NB0_409.out; obtain ⟨hcz32_0, hcz32_1, hcz32_2, hcz32_3, hcz32_4, hcz32_5, hfz32_0, hfz32_1, hfz32_2, hfz32_3, hfz32_4, hfz32_5⟩ := zc6 BK409))
  refine bodyPost_ret (results_cell_row rfl _ _ gb409 95 #[.int .i64 (wrap64 (15 - t425)), .int .i64 t412, .int .i64 t414, .int .i64 (wrap64 (t414 + t419)), .int .i64 t416, .int .i64 (wrap64 (t416 + t421))] (0, 0) _ rfl (bp BK409) Try.underlying95 rfl (by kernel_rfl)) rfl ?_
  exact ⟨re, by exact qi HI0, by exact qb HI0 HB, by exact qk _ _ _ HK⟩
 ·rw [if_neg c9] at H
  have c9b0 : (t423 == 0) = false := beq_eq_false_iff_ne.mpr c9
  have c9b1 : (t423 != 0) = true := bne_iff_ne.mpr c9
  by_cases c33 : t423 = 1
  ·rw [if_pos c33] at H
   have c33b0 : (t423 == 1) = true := beq_iff_eq.mpr c33
   have c33b1 : (t423 != 1) = false := bne_eq_false_iff_eq.mpr c33
   clear c33
   obtain ⟨⟨t427, t428⟩, A34, H⟩ := bo H
   try dsimp only at H
   simp only [Option.some.injEq, Prod.mk.injEq] at H
   obtain ⟨rfl, rfl, rfl, rfl, rfl, rfl, rfl⟩ := H
   go_enter Try.func110, Try.ntmps110
   try go_wp2_with (first | ((with_reducible refine gate_dst (N := 2) rfl ?_); refine be 2 #[.int .i64 0, .int .i64 0, .int .i64 0, .int .i64 0, .int .i64 0, .int .i64 0] 95 ?_; intro gb409 hg w35 hbox hb; have _ := ra (IsS127.below (qi HI0) hb); have _ := kt (qk _ _ _ HK) hb; have _ := ra (below_step (qb HI0 HB) hb); have _ := ra (hbox); have _ := ns hg (qk w _ g HK); have _ := nt hg HW0 (qk w _ g HK); have _ := nl hg (qi HI0); have _ := nr hg (qi HI0); clear HI0 HK HB; rename_i HI0 HK HB BK409 GW409 GE409 NB0_409 NB409_0; clear hb hbox hg) | ((with_reducible refine gate_callee (f := 87) rfl ?_); refine gl (some 5) Try.func87 #[.pointer (some ⟨g, 0, none⟩), .int .i64 6] ?_; (with_reducible refine (spec_l1Rd_pick.calls k g s0_0 s0_1 6 t410 t411 w0 _ ?side1 ?side2 A2.out).mono ?_); (case side1 => exact qi HI0); (case side2 => exact qb HI0 HB); rintro e w36 ⟨rfl, hi, hb, hk⟩; refine ⟨_, rfl, ?_⟩; have _ := kv hk (bk BK409) NB409_0; have _ := ku (qk _ _ _ HK) hk; have _ := ra (hb); have _ := ra (hi); clear BK409 HK HB HI0; rename_i BK409 HK HB HI0; (try clear hb); (try clear hb2); (try clear hk); (try clear hi)) | ((with_reducible refine gate_callee (f := 87) rfl ?_); refine gl (some 7) Try.func87 #[.pointer (some ⟨g, 0, none⟩), .int .i64 6] ?_; (with_reducible refine (spec_l1Rd_pick.calls k g s0_0 t411 6 t412 t413 w0 _ ?side1 ?side2 A3.out).mono ?_); (case side1 => exact qi HI0); (case side2 => exact qb HI0 HB); rintro e w37 ⟨rfl, hi, hb, hk⟩; refine ⟨_, rfl, ?_⟩; have _ := kv hk (bk BK409) NB409_0; have _ := ku (qk _ _ _ HK) hk; have _ := ra (hb); have _ := ra (hi); clear BK409 HK HB HI0; rename_i BK409 HK HB HI0; (try clear hb); (try clear hb2); (try clear hk); (try clear hi)) | ((with_reducible refine gate_callee (f := 87) rfl ?_); refine gl (some 9) Try.func87 #[.pointer (some ⟨g, 0, none⟩), .int .i64 3] ?_; (with_reducible refine (spec_l1Rd_pick.calls k g s0_0 t413 3 t414 t415 w0 _ ?side1 ?side2 A4.out).mono ?_); (case side1 => exact qi HI0); (case side2 => exact qb HI0 HB); rintro e w38 ⟨rfl, hi, hb, hk⟩; refine ⟨_, rfl, ?_⟩; have _ := kv hk (bk BK409) NB409_0; have _ := ku (qk _ _ _ HK) hk; have _ := ra (hb); have _ := ra (hi); clear BK409 HK HB HI0; rename_i BK409 HK HB HI0; (try clear hb); (try clear hb2); (try clear hk); (try clear hi)) | ((with_reducible refine gate_callee (f := 87) rfl ?_); refine gl (some 11) Try.func87 #[.pointer (some ⟨g, 0, none⟩), .int .i64 60] ?_; (with_reducible refine (spec_l1Rd_pick.calls k g s0_0 t415 60 t416 t417 w0 _ ?side1 ?side2 A5.out).mono ?_); (case side1 => exact qi HI0); (case side2 => exact qb HI0 HB); rintro e w39 ⟨rfl, hi, hb, hk⟩; refine ⟨_, rfl, ?_⟩; have _ := kv hk (bk BK409) NB409_0; have _ := ku (qk _ _ _ HK) hk; have _ := ra (hb); have _ := ra (hi); clear BK409 HK HB HI0; rename_i BK409 HK HB HI0; (try clear hb); (try clear hb2); (try clear hk); (try clear hi)) | ((with_reducible refine gate_dst (N := 3) rfl ?_); refine be 3 #[.int .i64 0, .int .i64 0, .int .i64 0, .int .i64 0, .int .i64 0, .int .i64 0] 95 ?_; intro gb418 hg w40 hbox hb; have _ := ra (IsS127.below (qi HI0) hb); have _ := bb (bk BK409) hb; have _ := kt (qk _ _ _ HK) hb; have _ := ra (below_step (qb HI0 HB) hb); have _ := ra (hbox); have _ := ns hg (qk w _ g HK); have _ := nt hg HW0 (qk w _ g HK); have _ := bn hg (bk BK409); have _ := bm hg (bk BK409); have _ := nl hg (qi HI0); have _ := nr hg (qi HI0); clear HI0 BK409 HK HB; rename_i HI0 BK409 HK HB BK418 GW418 GE418 NB409_418 NB418_409 NB0_418 NB418_0; clear hb hbox hg; have hnb41 := NB418_409.out; have hnc41 := NB409_418.out; have hnb42 := NB418_0.out; have hnc42 := NB0_418.out; obtain ⟨hcz43_0, hcz43_1, hcz43_2, hcz43_3, hcz43_4, hcz43_5, hfz43_0, hfz43_1, hfz43_2, hfz43_3, hfz43_4, hfz43_5⟩ := zc6 BK418))
   have n0 : Aside0 (((((((w40.setCell ⟨gb418, 0, none⟩ (.int .i64 t410)).setCell ⟨gb418, 1, none⟩ (.int .i64 t412)).setCell ⟨gb418, 2, none⟩ (.int .i64 t414)).setCell ⟨gb418, 3, none⟩ (.int .i64 0)).setCell ⟨gb418, 4, none⟩ (.int .i64 t416)).setCell ⟨gb418, 5, none⟩ (.int .i64 0)).heap[gb409]? = some (.cells #[.int .i64 0, .int .i64 0, .int .i64 0, .int .i64 0, .int .i64 0, .int .i64 0] 95 (0, 0))) := ⟨bk BK409⟩
   have n1 : Aside0 (((((((w40.setCell ⟨gb418, 0, none⟩ (.int .i64 t410)).setCell ⟨gb418, 1, none⟩ (.int .i64 t412)).setCell ⟨gb418, 2, none⟩ (.int .i64 t414)).setCell ⟨gb418, 3, none⟩ (.int .i64 0)).setCell ⟨gb418, 4, none⟩ (.int .i64 t416)).setCell ⟨gb418, 5, none⟩ (.int .i64 0)).heap[gb418]? = some (.cells #[.int .i64 t410, .int .i64 t412, .int .i64 t414, .int .i64 0, .int .i64 t416, .int .i64 0] 95 (0, 0))) := ⟨bp BK418⟩
   have n2 : Aside0 (IsS127 w0 ((((((w40.setCell ⟨gb418, 0, none⟩ (.int .i64 t410)).setCell ⟨gb418, 1, none⟩ (.int .i64 t412)).setCell ⟨gb418, 2, none⟩ (.int .i64 t414)).setCell ⟨gb418, 3, none⟩ (.int .i64 0)).setCell ⟨gb418, 4, none⟩ (.int .i64 t416)).setCell ⟨gb418, 5, none⟩ (.int .i64 0)) g s0_0 t417) := ⟨by exact qi HI0⟩
   have n3 : Aside0 (KeepBut w ((((((w40.setCell ⟨gb418, 0, none⟩ (.int .i64 t410)).setCell ⟨gb418, 1, none⟩ (.int .i64 t412)).setCell ⟨gb418, 2, none⟩ (.int .i64 t414)).setCell ⟨gb418, 3, none⟩ (.int .i64 0)).setCell ⟨gb418, 4, none⟩ (.int .i64 t416)).setCell ⟨gb418, 5, none⟩ (.int .i64 0)) g none) := ⟨by exact qk _ _ _ HK⟩
   have n4 : Aside0 (Below w0.heap.size w0 ((((((w40.setCell ⟨gb418, 0, none⟩ (.int .i64 t410)).setCell ⟨gb418, 1, none⟩ (.int .i64 t412)).setCell ⟨gb418, 2, none⟩ (.int .i64 t414)).setCell ⟨gb418, 3, none⟩ (.int .i64 0)).setCell ⟨gb418, 4, none⟩ (.int .i64 t416)).setCell ⟨gb418, 5, none⟩ (.int .i64 0))) := ⟨by exact qb HI0 HB⟩
   (try clear BK409)
   (try clear BK418)
   (try clear HI0)
   (try clear HK)
   (try clear HB)
   generalize ((((((w40.setCell ⟨gb418, 0, none⟩ (.int .i64 t410)).setCell ⟨gb418, 1, none⟩ (.int .i64 t412)).setCell ⟨gb418, 2, none⟩ (.int .i64 t414)).setCell ⟨gb418, 3, none⟩ (.int .i64 0)).setCell ⟨gb418, 4, none⟩ (.int .i64 t416)).setCell ⟨gb418, 5, none⟩ (.int .i64 0)) = w44 at n0 n1 n2 n3 n4 ⊢
   have BK409 := n0
   have BK418 := n1
   have HI0 := n2
   have HK := n3
   have HB := n4
   clear n0 n1 n2 n3 n4
   have _ := ra (blk_drew BK409.out)
   have _ := ra (blk_drew BK418.out)
   have _ := ra (IsS127.drew HI0.out)
   have _ := ra (keep_drew HK.out)
   have _ := ra (below_drew1 HB.out)
   clear BK409 BK418 HI0 HK HB
   rename_i BK409 BK418 HI0 HK HB
   refine start_ (n := 7) (S := fun w' => w'.cell? ⟨gb418, 0, none⟩ = some (.int .i64 t410) ∧ w'.cell? ⟨gb418, 1, none⟩ = some (.int .i64 t412) ∧ w'.cell? ⟨gb418, 2, none⟩ = some (.int .i64 t414) ∧ w'.cell? ⟨gb418, 3, none⟩ = some (.int .i64 0) ∧ w'.cell? ⟨gb418, 4, none⟩ = some (.int .i64 t416) ∧ w'.cell? ⟨gb418, 5, none⟩ = some (.int .i64 0)) (ds := [6]) #[false, false, false, false, false, false, false] (by kernel_rfl) rfl rfl ⟨(blk_cell BK418.out 0).trans rfl, (blk_cell BK418.out 1).trans rfl, (blk_cell BK418.out 2).trans rfl, (blk_cell BK418.out 3).trans rfl, (blk_cell BK418.out 4).trans rfl, (blk_cell BK418.out 5).trans rfl⟩ (fun hHeld => ?_)
   generalize w44.drew = w45 at BK409 BK418 HI0 HK HB hHeld ⊢
   refine pu 0 13 (bl 7 1) ?_
   refine pu 2 15 (bl 7 5) ?_
   refine tk 1 14 (bl 7 7) ?_ hHeld
   refine oe 3 16 (bl 7 15) (fun K hK => ?_)
   refine gs Try.func87 #[.pointer (some ⟨g, 0, none⟩), .int .i64 3] ?_
   with_reducible refine (spec_l1Rd_pick.calls k g s0_0 t417 3 t419 t420 w0 _ ?side1 ?side2 A6.out).mono ?_
   (case side1 => exact qi HI0)
   (case side2 => exact qb HI0 HB)
   rintro e w46 ⟨rfl, hi, hb, hk⟩
   refine ⟨_, rfl, ?_⟩
   have _ := kv hk (bk BK409) NB409_0
   have _ := kv hk (bk BK418) NB418_0
   have _ := ku (qk _ _ _ HK) hk
   have _ := ra (hb)
   have _ := ra (hi)
   clear BK409 BK418 HK HB HI0
   rename_i BK409 BK418 HK HB HI0
   (try clear hb)
   (try clear hb2)
   (try clear hk)
   (try clear hi)
   refine hK.out _ _ ⟨(blk_cell BK418.out 0).trans rfl, (blk_cell BK418.out 1).trans rfl, (blk_cell BK418.out 2).trans rfl, (blk_cell BK418.out 3).trans rfl, (blk_cell BK418.out 4).trans rfl, (blk_cell BK418.out 5).trans rfl⟩ (fun hHeld => ?_)
   clear hK K
   refine nm 16 ?_
   refine pu 4 17 (bl 7 31) ?_
   refine pu 5 18 (bl 7 63) ?_
   refine last_ (i := 6) (N := none) #[true, true, true, true, true, true, true] rfl rfl (by kernel_rfl) (by decide) (fun K hK => ?_)
   have hs47 : w46.cell? ⟨gb418, 3, none⟩ = some (.int .i64 0) := (blk_cell BK418.out 3).trans rfl
   have hfs47 := blk_frozen BK418.out 3
   have hns47_0 := NB409_418.out
   have hms47_0 := NB418_409.out
   refine skip_ (w1 := ?_) (by rfl) rfl ?_ ?_
   rotate_left
   ·go_simp
    rfl
   refine hK.out _ _ ?_
   clear hK K
   refine done_ (by kernel_rfl) ?_
   try go_wp2
   have n0 : Aside0 ((w46.setCell ⟨gb418, 3, none⟩ (.int .i64 (wrap64 (t414 + t419)))).heap[gb409]? = some (.cells #[.int .i64 0, .int .i64 0, .int .i64 0, .int .i64 0, .int .i64 0, .int .i64 0] 95 (0, 0))) := ⟨bk BK409⟩
   have n1 : Aside0 ((w46.setCell ⟨gb418, 3, none⟩ (.int .i64 (wrap64 (t414 + t419)))).heap[gb418]? = some (.cells #[.int .i64 t410, .int .i64 t412, .int .i64 t414, .int .i64 (wrap64 (t414 + t419)), .int .i64 t416, .int .i64 0] 95 (0, 0))) := ⟨bp BK418⟩
   have n2 : Aside0 (IsS127 w0 (w46.setCell ⟨gb418, 3, none⟩ (.int .i64 (wrap64 (t414 + t419)))) g s0_0 t420) := ⟨by exact qi HI0⟩
   have n3 : Aside0 (KeepBut w (w46.setCell ⟨gb418, 3, none⟩ (.int .i64 (wrap64 (t414 + t419)))) g none) := ⟨by exact qk _ _ _ HK⟩
   have n4 : Aside0 (Below w0.heap.size w0 (w46.setCell ⟨gb418, 3, none⟩ (.int .i64 (wrap64 (t414 + t419))))) := ⟨by exact qb HI0 HB⟩
   (try clear BK409)
   (try clear BK418)
   (try clear HI0)
   (try clear HK)
   (try clear HB)
   generalize (w46.setCell ⟨gb418, 3, none⟩ (.int .i64 (wrap64 (t414 + t419)))) = w48 at n0 n1 n2 n3 n4 ⊢
   have BK409 := n0
   have BK418 := n1
   have HI0 := n2
   have HK := n3
   have HB := n4
   clear n0 n1 n2 n3 n4
   have _ := ra (blk_drew BK409.out)
   have _ := ra (blk_drew BK418.out)
   have _ := ra (IsS127.drew HI0.out)
   have _ := ra (keep_drew HK.out)
   have _ := ra (below_drew1 HB.out)
   clear BK409 BK418 HI0 HK HB
   rename_i BK409 BK418 HI0 HK HB
   refine start_ (n := 7) (S := fun w' => w'.cell? ⟨gb418, 0, none⟩ = some (.int .i64 t410) ∧ w'.cell? ⟨gb418, 1, none⟩ = some (.int .i64 t412) ∧ w'.cell? ⟨gb418, 2, none⟩ = some (.int .i64 t414) ∧ w'.cell? ⟨gb418, 3, none⟩ = some (.int .i64 (wrap64 (t414 + t419))) ∧ w'.cell? ⟨gb418, 4, none⟩ = some (.int .i64 t416) ∧ w'.cell? ⟨gb418, 5, none⟩ = some (.int .i64 0)) (ds := [6]) #[false, false, false, false, false, false, false] (by kernel_rfl) rfl rfl ⟨(blk_cell BK418.out 0).trans rfl, (blk_cell BK418.out 1).trans rfl, (blk_cell BK418.out 2).trans rfl, (blk_cell BK418.out 3).trans rfl, (blk_cell BK418.out 4).trans rfl, (blk_cell BK418.out 5).trans rfl⟩ (fun hHeld => ?_)
   generalize w48.drew = w49 at BK409 BK418 HI0 HK HB hHeld ⊢
   refine pu 0 19 (bl 7 1) ?_
   refine pu 2 21 (bl 7 5) ?_
   refine tk 1 20 (bl 7 7) ?_ hHeld
   refine oe 3 22 (bl 7 15) (fun K hK => ?_)
   refine gs Try.func87 #[.pointer (some ⟨g, 0, none⟩), .int .i64 20] ?_
   with_reducible refine (spec_l1Rd_pick.calls k g s0_0 t420 20 t421 t422 w0 _ ?side1 ?side2 A7.out).mono ?_
   (case side1 => exact qi HI0)
   (case side2 => exact qb HI0 HB)
   rintro e w50 ⟨rfl, hi, hb, hk⟩
   refine ⟨_, rfl, ?_⟩
   have _ := kv hk (bk BK409) NB409_0
   have _ := kv hk (bk BK418) NB418_0
   have _ := ku (qk _ _ _ HK) hk
   have _ := ra (hb)
   have _ := ra (hi)
   clear BK409 BK418 HK HB HI0
   rename_i BK409 BK418 HK HB HI0
   (try clear hb)
   (try clear hb2)
   (try clear hk)
   (try clear hi)
   refine hK.out _ _ ⟨(blk_cell BK418.out 0).trans rfl, (blk_cell BK418.out 1).trans rfl, (blk_cell BK418.out 2).trans rfl, (blk_cell BK418.out 3).trans rfl, (blk_cell BK418.out 4).trans rfl, (blk_cell BK418.out 5).trans rfl⟩ (fun hHeld => ?_)
   clear hK K
   refine nm 22 ?_
   refine pu 4 23 (bl 7 31) ?_
   refine pu 5 24 (bl 7 63) ?_
   refine last_ (i := 6) (N := none) #[true, true, true, true, true, true, true] rfl rfl (by kernel_rfl) (by decide) (fun K hK => ?_)
   have hs51 : w50.cell? ⟨gb418, 5, none⟩ = some (.int .i64 0) := (blk_cell BK418.out 5).trans rfl
   have hfs51 := blk_frozen BK418.out 5
   have hns51_0 := NB409_418.out
   have hms51_0 := NB418_409.out
   refine skip_ (w1 := ?_) (by rfl) rfl ?_ ?_
   rotate_left
   ·go_simp
    rfl
   refine hK.out _ _ ?_
   clear hK K
   refine done_ (by kernel_rfl) ?_
   try go_wp2_with (first | ((with_reducible refine gate_callee (f := 87) rfl ?_); refine gl (some 26) Try.func87 #[.pointer (some ⟨g, 0, none⟩), .int .i64 24] ?_; (with_reducible refine (spec_l1Rd_pick.calls k g s0_0 t422 24 t423 t424 w0 _ ?side1 ?side2 A8.out).mono ?_); (case side1 => exact qi HI0); (case side2 => exact qb HI0 HB); rintro e w52 ⟨rfl, hi, hb, hk⟩; refine ⟨_, rfl, ?_⟩; have _ := kv hk (bk BK409) NB409_0; have _ := ra (KeepBut.blk hk (g' := gb418) (o := .cells #[.int .i64 t410, .int .i64 t412, .int .i64 t414, .int .i64 (wrap64 (t414 + t419)), .int .i64 t416, .int .i64 (wrap64 (t416 + t421))] 95 (0, 0)) (bp BK418) NB418_0.out (by simp)); have _ := ku (qk _ _ _ HK) hk; have _ := ra (hb); have _ := ra (hi); clear BK409 BK418 HK HB HI0; rename_i BK409 BK418 HK HB HI0; (try clear hb); (try clear hb2); (try clear hk); (try clear hi); obtain ⟨hcz53_0, hcz53_1, hcz53_2, hcz53_3, hcz53_4, hcz53_5, hfz53_0, hfz53_1, hfz53_2, hfz53_3, hfz53_4, hfz53_5⟩ := zc6 BK418) | ((with_reducible refine gate_callee (f := 87) rfl ?_); refine gl (some 37) Try.func87 #[.pointer (some ⟨g, 0, none⟩), .int .i64 9] ?_; (with_reducible refine (spec_l1Rd_pick.calls k g s0_0 t424 9 t427 t428 w0 _ ?side1 ?side2 A34.out).mono ?_); (case side1 => exact qi HI0); (case side2 => exact qb HI0 HB); rintro e w54 ⟨rfl, hi, hb, hk⟩; refine ⟨_, rfl, ?_⟩; have _ := kv hk (bk BK409) NB409_0; have _ := ra (KeepBut.blk hk (g' := gb418) (o := .cells #[.int .i64 t410, .int .i64 t412, .int .i64 t414, .int .i64 (wrap64 (t414 + t419)), .int .i64 t416, .int .i64 10000] 95 (0, 0)) (bp BK418) NB418_0.out (by simp)); have _ := ku (qk _ _ _ HK) hk; have _ := ra (hb); have _ := ra (hi); clear BK409 BK418 HK HB HI0; rename_i BK409 BK418 HK HB HI0; (try clear hb); (try clear hb2); (try clear hk); (try clear hi); obtain ⟨hcz55_0, hcz55_1, hcz55_2, hcz55_3, hcz55_4, hcz55_5, hfz55_0, hfz55_1, hfz55_2, hfz55_3, hfz55_4, hfz55_5⟩ := zc6 BK418; have hnb56 := NB409_0.out; have hnc56 := NB0_409.out; obtain ⟨hcz57_0, hcz57_1, hcz57_2, hcz57_3, hcz57_4, hcz57_5, hfz57_0, hfz57_1, hfz57_2, hfz57_3, hfz57_4, hfz57_5⟩ := zc6 BK409))
   refine bodyPost_ret (results_cell_row rfl _ _ gb409 95 #[.int .i64 t410, .int .i64 t412, .int .i64 t414, .int .i64 (wrap64 (t414 + t419)), .int .i64 (wrap64 (10000 - t427)), .int .i64 10000] (0, 0) _ rfl (bp BK409) Try.underlying95 rfl (by kernel_rfl)) rfl ?_
   exact ⟨re, by exact qi HI0, by exact qb HI0 HB, by exact qk _ _ _ HK⟩
  ·rw [if_neg c33] at H
   have c33b0 : (t423 == 1) = false := beq_eq_false_iff_ne.mpr c33
   have c33b1 : (t423 != 1) = true := bne_iff_ne.mpr c33
   by_cases c58 : t423 = 2
   ·rw [if_pos c58] at H
    have c58b0 : (t423 == 2) = true := beq_iff_eq.mpr c58
    have c58b1 : (t423 != 2) = false := bne_eq_false_iff_eq.mpr c58
    clear c58
    simp only [Option.some.injEq, Prod.mk.injEq] at H
    obtain ⟨rfl, rfl, rfl, rfl, rfl, rfl, rfl⟩ := H
    go_enter Try.func110, Try.ntmps110
    try go_wp2_with (first | ((with_reducible refine gate_dst (N := 2) rfl ?_); refine be 2 #[.int .i64 0, .int .i64 0, .int .i64 0, .int .i64 0, .int .i64 0, .int .i64 0] 95 ?_; intro gb409 hg w59 hbox hb; have _ := ra (IsS127.below (qi HI0) hb); have _ := kt (qk _ _ _ HK) hb; have _ := ra (below_step (qb HI0 HB) hb); have _ := ra (hbox); have _ := ns hg (qk w _ g HK); have _ := nt hg HW0 (qk w _ g HK); have _ := nl hg (qi HI0); have _ := nr hg (qi HI0); clear HI0 HK HB; rename_i HI0 HK HB BK409 GW409 GE409 NB0_409 NB409_0; clear hb hbox hg) | ((with_reducible refine gate_callee (f := 87) rfl ?_); refine gl (some 5) Try.func87 #[.pointer (some ⟨g, 0, none⟩), .int .i64 6] ?_; (with_reducible refine (spec_l1Rd_pick.calls k g s0_0 s0_1 6 t410 t411 w0 _ ?side1 ?side2 A2.out).mono ?_); (case side1 => exact qi HI0); (case side2 => exact qb HI0 HB); rintro e w60 ⟨rfl, hi, hb, hk⟩; refine ⟨_, rfl, ?_⟩; have _ := kv hk (bk BK409) NB409_0; have _ := ku (qk _ _ _ HK) hk; have _ := ra (hb); have _ := ra (hi); clear BK409 HK HB HI0; rename_i BK409 HK HB HI0; (try clear hb); (try clear hb2); (try clear hk); (try clear hi)) | ((with_reducible refine gate_callee (f := 87) rfl ?_); refine gl (some 7) Try.func87 #[.pointer (some ⟨g, 0, none⟩), .int .i64 6] ?_; (with_reducible refine (spec_l1Rd_pick.calls k g s0_0 t411 6 t412 t413 w0 _ ?side1 ?side2 A3.out).mono ?_); (case side1 => exact qi HI0); (case side2 => exact qb HI0 HB); rintro e w61 ⟨rfl, hi, hb, hk⟩; refine ⟨_, rfl, ?_⟩; have _ := kv hk (bk BK409) NB409_0; have _ := ku (qk _ _ _ HK) hk; have _ := ra (hb); have _ := ra (hi); clear BK409 HK HB HI0; rename_i BK409 HK HB HI0; (try clear hb); (try clear hb2); (try clear hk); (try clear hi)) | ((with_reducible refine gate_callee (f := 87) rfl ?_); refine gl (some 9) Try.func87 #[.pointer (some ⟨g, 0, none⟩), .int .i64 3] ?_; (with_reducible refine (spec_l1Rd_pick.calls k g s0_0 t413 3 t414 t415 w0 _ ?side1 ?side2 A4.out).mono ?_); (case side1 => exact qi HI0); (case side2 => exact qb HI0 HB); rintro e w62 ⟨rfl, hi, hb, hk⟩; refine ⟨_, rfl, ?_⟩; have _ := kv hk (bk BK409) NB409_0; have _ := ku (qk _ _ _ HK) hk; have _ := ra (hb); have _ := ra (hi); clear BK409 HK HB HI0; rename_i BK409 HK HB HI0; (try clear hb); (try clear hb2); (try clear hk); (try clear hi)) | ((with_reducible refine gate_callee (f := 87) rfl ?_); refine gl (some 11) Try.func87 #[.pointer (some ⟨g, 0, none⟩), .int .i64 60] ?_; (with_reducible refine (spec_l1Rd_pick.calls k g s0_0 t415 60 t416 t417 w0 _ ?side1 ?side2 A5.out).mono ?_); (case side1 => exact qi HI0); (case side2 => exact qb HI0 HB); rintro e w63 ⟨rfl, hi, hb, hk⟩; refine ⟨_, rfl, ?_⟩; have _ := kv hk (bk BK409) NB409_0; have _ := ku (qk _ _ _ HK) hk; have _ := ra (hb); have _ := ra (hi); clear BK409 HK HB HI0; rename_i BK409 HK HB HI0; (try clear hb); (try clear hb2); (try clear hk); (try clear hi)) | ((with_reducible refine gate_dst (N := 3) rfl ?_); refine be 3 #[.int .i64 0, .int .i64 0, .int .i64 0, .int .i64 0, .int .i64 0, .int .i64 0] 95 ?_; intro gb418 hg w64 hbox hb; have _ := ra (IsS127.below (qi HI0) hb); have _ := bb (bk BK409) hb; have _ := kt (qk _ _ _ HK) hb; have _ := ra (below_step (qb HI0 HB) hb); have _ := ra (hbox); have _ := ns hg (qk w _ g HK); have _ := nt hg HW0 (qk w _ g HK); have _ := bn hg (bk BK409); have _ := bm hg (bk BK409); have _ := nl hg (qi HI0); have _ := nr hg (qi HI0); clear HI0 BK409 HK HB; rename_i HI0 BK409 HK HB BK418 GW418 GE418 NB409_418 NB418_409 NB0_418 NB418_0; clear hb hbox hg; have hnb65 := NB418_409.out; have hnc65 := NB409_418.out; have hnb66 := NB418_0.out; have hnc66 := NB0_418.out; obtain ⟨hcz67_0, hcz67_1, hcz67_2, hcz67_3, hcz67_4, hcz67_5, hfz67_0, hfz67_1, hfz67_2, hfz67_3, hfz67_4, hfz67_5⟩ := zc6 BK418))
    have n0 : Aside0 (((((((w64.setCell ⟨gb418, 0, none⟩ (.int .i64 t410)).setCell ⟨gb418, 1, none⟩ (.int .i64 t412)).setCell ⟨gb418, 2, none⟩ (.int .i64 t414)).setCell ⟨gb418, 3, none⟩ (.int .i64 0)).setCell ⟨gb418, 4, none⟩ (.int .i64 t416)).setCell ⟨gb418, 5, none⟩ (.int .i64 0)).heap[gb409]? = some (.cells #[.int .i64 0, .int .i64 0, .int .i64 0, .int .i64 0, .int .i64 0, .int .i64 0] 95 (0, 0))) := ⟨bk BK409⟩
    have n1 : Aside0 (((((((w64.setCell ⟨gb418, 0, none⟩ (.int .i64 t410)).setCell ⟨gb418, 1, none⟩ (.int .i64 t412)).setCell ⟨gb418, 2, none⟩ (.int .i64 t414)).setCell ⟨gb418, 3, none⟩ (.int .i64 0)).setCell ⟨gb418, 4, none⟩ (.int .i64 t416)).setCell ⟨gb418, 5, none⟩ (.int .i64 0)).heap[gb418]? = some (.cells #[.int .i64 t410, .int .i64 t412, .int .i64 t414, .int .i64 0, .int .i64 t416, .int .i64 0] 95 (0, 0))) := ⟨bp BK418⟩
    have n2 : Aside0 (IsS127 w0 ((((((w64.setCell ⟨gb418, 0, none⟩ (.int .i64 t410)).setCell ⟨gb418, 1, none⟩ (.int .i64 t412)).setCell ⟨gb418, 2, none⟩ (.int .i64 t414)).setCell ⟨gb418, 3, none⟩ (.int .i64 0)).setCell ⟨gb418, 4, none⟩ (.int .i64 t416)).setCell ⟨gb418, 5, none⟩ (.int .i64 0)) g s0_0 t417) := ⟨by exact qi HI0⟩
    have n3 : Aside0 (KeepBut w ((((((w64.setCell ⟨gb418, 0, none⟩ (.int .i64 t410)).setCell ⟨gb418, 1, none⟩ (.int .i64 t412)).setCell ⟨gb418, 2, none⟩ (.int .i64 t414)).setCell ⟨gb418, 3, none⟩ (.int .i64 0)).setCell ⟨gb418, 4, none⟩ (.int .i64 t416)).setCell ⟨gb418, 5, none⟩ (.int .i64 0)) g none) := ⟨by exact qk _ _ _ HK⟩
    have n4 : Aside0 (Below w0.heap.size w0 ((((((w64.setCell ⟨gb418, 0, none⟩ (.int .i64 t410)).setCell ⟨gb418, 1, none⟩ (.int .i64 t412)).setCell ⟨gb418, 2, none⟩ (.int .i64 t414)).setCell ⟨gb418, 3, none⟩ (.int .i64 0)).setCell ⟨gb418, 4, none⟩ (.int .i64 t416)).setCell ⟨gb418, 5, none⟩ (.int .i64 0))) := ⟨by exact qb HI0 HB⟩
    (try clear BK409)
    (try clear BK418)
    (try clear HI0)
    (try clear HK)
    (try clear HB)
    generalize ((((((w64.setCell ⟨gb418, 0, none⟩ (.int .i64 t410)).setCell ⟨gb418, 1, none⟩ (.int .i64 t412)).setCell ⟨gb418, 2, none⟩ (.int .i64 t414)).setCell ⟨gb418, 3, none⟩ (.int .i64 0)).setCell ⟨gb418, 4, none⟩ (.int .i64 t416)).setCell ⟨gb418, 5, none⟩ (.int .i64 0)) = w68 at n0 n1 n2 n3 n4 ⊢
    have BK409 := n0
    have BK418 := n1
    have HI0 := n2
    have HK := n3
    have HB := n4
    clear n0 n1 n2 n3 n4
    have _ := ra (blk_drew BK409.out)
    have _ := ra (blk_drew BK418.out)
    have _ := ra (IsS127.drew HI0.out)
    have _ := ra (keep_drew HK.out)
    have _ := ra (below_drew1 HB.out)
    clear BK409 BK418 HI0 HK HB
    rename_i BK409 BK418 HI0 HK HB
    refine start_ (n := 7) (S := fun w' => w'.cell? ⟨gb418, 0, none⟩ = some (.int .i64 t410) ∧ w'.cell? ⟨gb418, 1, none⟩ = some (.int .i64 t412) ∧ w'.cell? ⟨gb418, 2, none⟩ = some (.int .i64 t414) ∧ w'.cell? ⟨gb418, 3, none⟩ = some (.int .i64 0) ∧ w'.cell? ⟨gb418, 4, none⟩ = some (.int .i64 t416) ∧ w'.cell? ⟨gb418, 5, none⟩ = some (.int .i64 0)) (ds := [6]) #[false, false, false, false, false, false, false] (by kernel_rfl) rfl rfl ⟨(blk_cell BK418.out 0).trans rfl, (blk_cell BK418.out 1).trans rfl, (blk_cell BK418.out 2).trans rfl, (blk_cell BK418.out 3).trans rfl, (blk_cell BK418.out 4).trans rfl, (blk_cell BK418.out 5).trans rfl⟩ (fun hHeld => ?_)
    generalize w68.drew = w69 at BK409 BK418 HI0 HK HB hHeld ⊢
    refine pu 0 13 (bl 7 1) ?_
    refine pu 2 15 (bl 7 5) ?_
    refine tk 1 14 (bl 7 7) ?_ hHeld
    refine oe 3 16 (bl 7 15) (fun K hK => ?_)
    refine gs Try.func87 #[.pointer (some ⟨g, 0, none⟩), .int .i64 3] ?_
    with_reducible refine (spec_l1Rd_pick.calls k g s0_0 t417 3 t419 t420 w0 _ ?side1 ?side2 A6.out).mono ?_
    (case side1 => exact qi HI0)
    (case side2 => exact qb HI0 HB)
    rintro e w70 ⟨rfl, hi, hb, hk⟩
    refine ⟨_, rfl, ?_⟩
    have _ := kv hk (bk BK409) NB409_0
    have _ := kv hk (bk BK418) NB418_0
    have _ := ku (qk _ _ _ HK) hk
    have _ := ra (hb)
    have _ := ra (hi)
    clear BK409 BK418 HK HB HI0
    rename_i BK409 BK418 HK HB HI0
    (try clear hb)
    (try clear hb2)
    (try clear hk)
    (try clear hi)
    refine hK.out _ _ ⟨(blk_cell BK418.out 0).trans rfl, (blk_cell BK418.out 1).trans rfl, (blk_cell BK418.out 2).trans rfl, (blk_cell BK418.out 3).trans rfl, (blk_cell BK418.out 4).trans rfl, (blk_cell BK418.out 5).trans rfl⟩ (fun hHeld => ?_)
    clear hK K
    refine nm 16 ?_
    refine pu 4 17 (bl 7 31) ?_
    refine pu 5 18 (bl 7 63) ?_
    refine last_ (i := 6) (N := none) #[true, true, true, true, true, true, true] rfl rfl (by kernel_rfl) (by decide) (fun K hK => ?_)
    have hs71 : w70.cell? ⟨gb418, 3, none⟩ = some (.int .i64 0) := (blk_cell BK418.out 3).trans rfl
    have hfs71 := blk_frozen BK418.out 3
    have hns71_0 := NB409_418.out
    have hms71_0 := NB418_409.out
    refine skip_ (w1 := ?_) (by rfl) rfl ?_ ?_
    rotate_left
    ·go_simp
     rfl
    refine hK.out _ _ ?_
    clear hK K
    refine done_ (by kernel_rfl) ?_
    try go_wp2
    have n0 : Aside0 ((w70.setCell ⟨gb418, 3, none⟩ (.int .i64 (wrap64 (t414 + t419)))).heap[gb409]? = some (.cells #[.int .i64 0, .int .i64 0, .int .i64 0, .int .i64 0, .int .i64 0, .int .i64 0] 95 (0, 0))) := ⟨bk BK409⟩
    have n1 : Aside0 ((w70.setCell ⟨gb418, 3, none⟩ (.int .i64 (wrap64 (t414 + t419)))).heap[gb418]? = some (.cells #[.int .i64 t410, .int .i64 t412, .int .i64 t414, .int .i64 (wrap64 (t414 + t419)), .int .i64 t416, .int .i64 0] 95 (0, 0))) := ⟨bp BK418⟩
    have n2 : Aside0 (IsS127 w0 (w70.setCell ⟨gb418, 3, none⟩ (.int .i64 (wrap64 (t414 + t419)))) g s0_0 t420) := ⟨by exact qi HI0⟩
    have n3 : Aside0 (KeepBut w (w70.setCell ⟨gb418, 3, none⟩ (.int .i64 (wrap64 (t414 + t419)))) g none) := ⟨by exact qk _ _ _ HK⟩
    have n4 : Aside0 (Below w0.heap.size w0 (w70.setCell ⟨gb418, 3, none⟩ (.int .i64 (wrap64 (t414 + t419))))) := ⟨by exact qb HI0 HB⟩
    (try clear BK409)
    (try clear BK418)
    (try clear HI0)
    (try clear HK)
    (try clear HB)
    generalize (w70.setCell ⟨gb418, 3, none⟩ (.int .i64 (wrap64 (t414 + t419)))) = w72 at n0 n1 n2 n3 n4 ⊢
    have BK409 := n0
    have BK418 := n1
    have HI0 := n2
    have HK := n3
    have HB := n4
    clear n0 n1 n2 n3 n4
    have _ := ra (blk_drew BK409.out)
    have _ := ra (blk_drew BK418.out)
    have _ := ra (IsS127.drew HI0.out)
    have _ := ra (keep_drew HK.out)
    have _ := ra (below_drew1 HB.out)
    clear BK409 BK418 HI0 HK HB
    rename_i BK409 BK418 HI0 HK HB
    refine start_ (n := 7) (S := fun w' => w'.cell? ⟨gb418, 0, none⟩ = some (.int .i64 t410) ∧ w'.cell? ⟨gb418, 1, none⟩ = some (.int .i64 t412) ∧ w'.cell? ⟨gb418, 2, none⟩ = some (.int .i64 t414) ∧ w'.cell? ⟨gb418, 3, none⟩ = some (.int .i64 (wrap64 (t414 + t419))) ∧ w'.cell? ⟨gb418, 4, none⟩ = some (.int .i64 t416) ∧ w'.cell? ⟨gb418, 5, none⟩ = some (.int .i64 0)) (ds := [6]) #[false, false, false, false, false, false, false] (by kernel_rfl) rfl rfl ⟨(blk_cell BK418.out 0).trans rfl, (blk_cell BK418.out 1).trans rfl, (blk_cell BK418.out 2).trans rfl, (blk_cell BK418.out 3).trans rfl, (blk_cell BK418.out 4).trans rfl, (blk_cell BK418.out 5).trans rfl⟩ (fun hHeld => ?_)
    generalize w72.drew = w73 at BK409 BK418 HI0 HK HB hHeld ⊢
    refine pu 0 19 (bl 7 1) ?_
    refine pu 2 21 (bl 7 5) ?_
    refine tk 1 20 (bl 7 7) ?_ hHeld
    refine oe 3 22 (bl 7 15) (fun K hK => ?_)
    refine gs Try.func87 #[.pointer (some ⟨g, 0, none⟩), .int .i64 20] ?_
    with_reducible refine (spec_l1Rd_pick.calls k g s0_0 t420 20 t421 t422 w0 _ ?side1 ?side2 A7.out).mono ?_
    (case side1 => exact qi HI0)
    (case side2 => exact qb HI0 HB)
    rintro e w74 ⟨rfl, hi, hb, hk⟩
    refine ⟨_, rfl, ?_⟩
    have _ := kv hk (bk BK409) NB409_0
    have _ := kv hk (bk BK418) NB418_0
    have _ := ku (qk _ _ _ HK) hk
    have _ := ra (hb)
    have _ := ra (hi)
    clear BK409 BK418 HK HB HI0
    rename_i BK409 BK418 HK HB HI0
    (try clear hb)
    (try clear hb2)
    (try clear hk)
    (try clear hi)
    refine hK.out _ _ ⟨(blk_cell BK418.out 0).trans rfl, (blk_cell BK418.out 1).trans rfl, (blk_cell BK418.out 2).trans rfl, (blk_cell BK418.out 3).trans rfl, (blk_cell BK418.out 4).trans rfl, (blk_cell BK418.out 5).trans rfl⟩ (fun hHeld => ?_)
    clear hK K
    refine nm 22 ?_
    refine pu 4 23 (bl 7 31) ?_
    refine pu 5 24 (bl 7 63) ?_
    refine last_ (i := 6) (N := none) #[true, true, true, true, true, true, true] rfl rfl (by kernel_rfl) (by decide) (fun K hK => ?_)
    have hs75 : w74.cell? ⟨gb418, 5, none⟩ = some (.int .i64 0) := (blk_cell BK418.out 5).trans rfl
    have hfs75 := blk_frozen BK418.out 5
    have hns75_0 := NB409_418.out
    have hms75_0 := NB418_409.out
    refine skip_ (w1 := ?_) (by rfl) rfl ?_ ?_
    rotate_left
    ·go_simp
     rfl
    refine hK.out _ _ ?_
    clear hK K
    refine done_ (by kernel_rfl) ?_
    try go_wp2_with (first | ((with_reducible refine gate_callee (f := 87) rfl ?_); refine gl (some 26) Try.func87 #[.pointer (some ⟨g, 0, none⟩), .int .i64 24] ?_; (with_reducible refine (spec_l1Rd_pick.calls k g s0_0 t422 24 t423 t424 w0 _ ?side1 ?side2 A8.out).mono ?_); (case side1 => exact qi HI0); (case side2 => exact qb HI0 HB); rintro e w76 ⟨rfl, hi, hb, hk⟩; refine ⟨_, rfl, ?_⟩; have _ := kv hk (bk BK409) NB409_0; have _ := ra (KeepBut.blk hk (g' := gb418) (o := .cells #[.int .i64 t410, .int .i64 t412, .int .i64 t414, .int .i64 (wrap64 (t414 + t419)), .int .i64 t416, .int .i64 (wrap64 (t416 + t421))] 95 (0, 0)) (bp BK418) NB418_0.out (by simp)); have _ := ku (qk _ _ _ HK) hk; have _ := ra (hb); have _ := ra (hi); clear BK409 BK418 HK HB HI0; rename_i BK409 BK418 HK HB HI0; (try clear hb); (try clear hb2); (try clear hk); (try clear hi); obtain ⟨hcz77_0, hcz77_1, hcz77_2, hcz77_3, hcz77_4, hcz77_5, hfz77_0, hfz77_1, hfz77_2, hfz77_3, hfz77_4, hfz77_5⟩ := zc6 BK418; have hnb78 := NB409_0.out; have hnc78 := NB0_409.out; obtain ⟨hcz79_0, hcz79_1, hcz79_2, hcz79_3, hcz79_4, hcz79_5, hfz79_0, hfz79_1, hfz79_2, hfz79_3, hfz79_4, hfz79_5⟩ := zc6 BK409))
    refine bodyPost_ret (results_cell_row rfl _ _ gb409 95 #[.int .i64 t410, .int .i64 t412, .int .i64 t414, .int .i64 6, .int .i64 t416, .int .i64 (wrap64 (t416 + t421))] (0, 0) _ rfl (bp BK409) Try.underlying95 rfl (by kernel_rfl)) rfl ?_
    exact ⟨re, by exact qi HI0, by exact qb HI0 HB, by exact qk _ _ _ HK⟩
   ·rw [if_neg c58] at H
    have c58b0 : (t423 == 2) = false := beq_eq_false_iff_ne.mpr c58
    have c58b1 : (t423 != 2) = true := bne_iff_ne.mpr c58
    simp only [Option.some.injEq, Prod.mk.injEq] at H
    obtain ⟨rfl, rfl, rfl, rfl, rfl, rfl, rfl⟩ := H
    go_enter Try.func110, Try.ntmps110
    try go_wp2_with (first | ((with_reducible refine gate_dst (N := 2) rfl ?_); refine be 2 #[.int .i64 0, .int .i64 0, .int .i64 0, .int .i64 0, .int .i64 0, .int .i64 0] 95 ?_; intro gb409 hg w80 hbox hb; have _ := ra (IsS127.below (qi HI0) hb); have _ := kt (qk _ _ _ HK) hb; have _ := ra (below_step (qb HI0 HB) hb); have _ := ra (hbox); have _ := ns hg (qk w _ g HK); have _ := nt hg HW0 (qk w _ g HK); have _ := nl hg (qi HI0); have _ := nr hg (qi HI0); clear HI0 HK HB; rename_i HI0 HK HB BK409 GW409 GE409 NB0_409 NB409_0; clear hb hbox hg) | ((with_reducible refine gate_callee (f := 87) rfl ?_); refine gl (some 5) Try.func87 #[.pointer (some ⟨g, 0, none⟩), .int .i64 6] ?_; (with_reducible refine (spec_l1Rd_pick.calls k g s0_0 s0_1 6 t410 t411 w0 _ ?side1 ?side2 A2.out).mono ?_); (case side1 => exact qi HI0); (case side2 => exact qb HI0 HB); rintro e w81 ⟨rfl, hi, hb, hk⟩; refine ⟨_, rfl, ?_⟩; have _ := kv hk (bk BK409) NB409_0; have _ := ku (qk _ _ _ HK) hk; have _ := ra (hb); have _ := ra (hi); clear BK409 HK HB HI0; rename_i BK409 HK HB HI0; (try clear hb); (try clear hb2); (try clear hk); (try clear hi)) | ((with_reducible refine gate_callee (f := 87) rfl ?_); refine gl (some 7) Try.func87 #[.pointer (some ⟨g, 0, none⟩), .int .i64 6] ?_; (with_reducible refine (spec_l1Rd_pick.calls k g s0_0 t411 6 t412 t413 w0 _ ?side1 ?side2 A3.out).mono ?_); (case side1 => exact qi HI0); (case side2 => exact qb HI0 HB); rintro e w82 ⟨rfl, hi, hb, hk⟩; refine ⟨_, rfl, ?_⟩; have _ := kv hk (bk BK409) NB409_0; have _ := ku (qk _ _ _ HK) hk; have _ := ra (hb); have _ := ra (hi); clear BK409 HK HB HI0; rename_i BK409 HK HB HI0; (try clear hb); (try clear hb2); (try clear hk); (try clear hi)) | ((with_reducible refine gate_callee (f := 87) rfl ?_); refine gl (some 9) Try.func87 #[.pointer (some ⟨g, 0, none⟩), .int .i64 3] ?_; (with_reducible refine (spec_l1Rd_pick.calls k g s0_0 t413 3 t414 t415 w0 _ ?side1 ?side2 A4.out).mono ?_); (case side1 => exact qi HI0); (case side2 => exact qb HI0 HB); rintro e w83 ⟨rfl, hi, hb, hk⟩; refine ⟨_, rfl, ?_⟩; have _ := kv hk (bk BK409) NB409_0; have _ := ku (qk _ _ _ HK) hk; have _ := ra (hb); have _ := ra (hi); clear BK409 HK HB HI0; rename_i BK409 HK HB HI0; (try clear hb); (try clear hb2); (try clear hk); (try clear hi)) | ((with_reducible refine gate_callee (f := 87) rfl ?_); refine gl (some 11) Try.func87 #[.pointer (some ⟨g, 0, none⟩), .int .i64 60] ?_; (with_reducible refine (spec_l1Rd_pick.calls k g s0_0 t415 60 t416 t417 w0 _ ?side1 ?side2 A5.out).mono ?_); (case side1 => exact qi HI0); (case side2 => exact qb HI0 HB); rintro e w84 ⟨rfl, hi, hb, hk⟩; refine ⟨_, rfl, ?_⟩; have _ := kv hk (bk BK409) NB409_0; have _ := ku (qk _ _ _ HK) hk; have _ := ra (hb); have _ := ra (hi); clear BK409 HK HB HI0; rename_i BK409 HK HB HI0; (try clear hb); (try clear hb2); (try clear hk); (try clear hi)) | ((with_reducible refine gate_dst (N := 3) rfl ?_); refine be 3 #[.int .i64 0, .int .i64 0, .int .i64 0, .int .i64 0, .int .i64 0, .int .i64 0] 95 ?_; intro gb418 hg w85 hbox hb; have _ := ra (IsS127.below (qi HI0) hb); have _ := bb (bk BK409) hb; have _ := kt (qk _ _ _ HK) hb; have _ := ra (below_step (qb HI0 HB) hb); have _ := ra (hbox); have _ := ns hg (qk w _ g HK); have _ := nt hg HW0 (qk w _ g HK); have _ := bn hg (bk BK409); have _ := bm hg (bk BK409); have _ := nl hg (qi HI0); have _ := nr hg (qi HI0); clear HI0 BK409 HK HB; rename_i HI0 BK409 HK HB BK418 GW418 GE418 NB409_418 NB418_409 NB0_418 NB418_0; clear hb hbox hg; have hnb86 := NB418_409.out; have hnc86 := NB409_418.out; have hnb87 := NB418_0.out; have hnc87 := NB0_418.out; obtain ⟨hcz88_0, hcz88_1, hcz88_2, hcz88_3, hcz88_4, hcz88_5, hfz88_0, hfz88_1, hfz88_2, hfz88_3, hfz88_4, hfz88_5⟩ := zc6 BK418))
    have n0 : Aside0 (((((((w85.setCell ⟨gb418, 0, none⟩ (.int .i64 t410)).setCell ⟨gb418, 1, none⟩ (.int .i64 t412)).setCell ⟨gb418, 2, none⟩ (.int .i64 t414)).setCell ⟨gb418, 3, none⟩ (.int .i64 0)).setCell ⟨gb418, 4, none⟩ (.int .i64 t416)).setCell ⟨gb418, 5, none⟩ (.int .i64 0)).heap[gb409]? = some (.cells #[.int .i64 0, .int .i64 0, .int .i64 0, .int .i64 0, .int .i64 0, .int .i64 0] 95 (0, 0))) := ⟨bk BK409⟩
    have n1 : Aside0 (((((((w85.setCell ⟨gb418, 0, none⟩ (.int .i64 t410)).setCell ⟨gb418, 1, none⟩ (.int .i64 t412)).setCell ⟨gb418, 2, none⟩ (.int .i64 t414)).setCell ⟨gb418, 3, none⟩ (.int .i64 0)).setCell ⟨gb418, 4, none⟩ (.int .i64 t416)).setCell ⟨gb418, 5, none⟩ (.int .i64 0)).heap[gb418]? = some (.cells #[.int .i64 t410, .int .i64 t412, .int .i64 t414, .int .i64 0, .int .i64 t416, .int .i64 0] 95 (0, 0))) := ⟨bp BK418⟩
    have n2 : Aside0 (IsS127 w0 ((((((w85.setCell ⟨gb418, 0, none⟩ (.int .i64 t410)).setCell ⟨gb418, 1, none⟩ (.int .i64 t412)).setCell ⟨gb418, 2, none⟩ (.int .i64 t414)).setCell ⟨gb418, 3, none⟩ (.int .i64 0)).setCell ⟨gb418, 4, none⟩ (.int .i64 t416)).setCell ⟨gb418, 5, none⟩ (.int .i64 0)) g s0_0 t417) := ⟨by exact qi HI0⟩
    have n3 : Aside0 (KeepBut w ((((((w85.setCell ⟨gb418, 0, none⟩ (.int .i64 t410)).setCell ⟨gb418, 1, none⟩ (.int .i64 t412)).setCell ⟨gb418, 2, none⟩ (.int .i64 t414)).setCell ⟨gb418, 3, none⟩ (.int .i64 0)).setCell ⟨gb418, 4, none⟩ (.int .i64 t416)).setCell ⟨gb418, 5, none⟩ (.int .i64 0)) g none) := ⟨by exact qk _ _ _ HK⟩
    have n4 : Aside0 (Below w0.heap.size w0 ((((((w85.setCell ⟨gb418, 0, none⟩ (.int .i64 t410)).setCell ⟨gb418, 1, none⟩ (.int .i64 t412)).setCell ⟨gb418, 2, none⟩ (.int .i64 t414)).setCell ⟨gb418, 3, none⟩ (.int .i64 0)).setCell ⟨gb418, 4, none⟩ (.int .i64 t416)).setCell ⟨gb418, 5, none⟩ (.int .i64 0))) := ⟨by exact qb HI0 HB⟩
    (try clear BK409)
    (try clear BK418)
    (try clear HI0)
    (try clear HK)
    (try clear HB)
    generalize ((((((w85.setCell ⟨gb418, 0, none⟩ (.int .i64 t410)).setCell ⟨gb418, 1, none⟩ (.int .i64 t412)).setCell ⟨gb418, 2, none⟩ (.int .i64 t414)).setCell ⟨gb418, 3, none⟩ (.int .i64 0)).setCell ⟨gb418, 4, none⟩ (.int .i64 t416)).setCell ⟨gb418, 5, none⟩ (.int .i64 0)) = w89 at n0 n1 n2 n3 n4 ⊢
    have BK409 := n0
    have BK418 := n1
    have HI0 := n2
    have HK := n3
    have HB := n4
    clear n0 n1 n2 n3 n4
    have _ := ra (blk_drew BK409.out)
    have _ := ra (blk_drew BK418.out)
    have _ := ra (IsS127.drew HI0.out)
    have _ := ra (keep_drew HK.out)
    have _ := ra (below_drew1 HB.out)
    clear BK409 BK418 HI0 HK HB
    rename_i BK409 BK418 HI0 HK HB
    refine start_ (n := 7) (S := fun w' => w'.cell? ⟨gb418, 0, none⟩ = some (.int .i64 t410) ∧ w'.cell? ⟨gb418, 1, none⟩ = some (.int .i64 t412) ∧ w'.cell? ⟨gb418, 2, none⟩ = some (.int .i64 t414) ∧ w'.cell? ⟨gb418, 3, none⟩ = some (.int .i64 0) ∧ w'.cell? ⟨gb418, 4, none⟩ = some (.int .i64 t416) ∧ w'.cell? ⟨gb418, 5, none⟩ = some (.int .i64 0)) (ds := [6]) #[false, false, false, false, false, false, false] (by kernel_rfl) rfl rfl ⟨(blk_cell BK418.out 0).trans rfl, (blk_cell BK418.out 1).trans rfl, (blk_cell BK418.out 2).trans rfl, (blk_cell BK418.out 3).trans rfl, (blk_cell BK418.out 4).trans rfl, (blk_cell BK418.out 5).trans rfl⟩ (fun hHeld => ?_)
    generalize w89.drew = w90 at BK409 BK418 HI0 HK HB hHeld ⊢
    refine pu 0 13 (bl 7 1) ?_
    refine pu 2 15 (bl 7 5) ?_
    refine tk 1 14 (bl 7 7) ?_ hHeld
    refine oe 3 16 (bl 7 15) (fun K hK => ?_)
    refine gs Try.func87 #[.pointer (some ⟨g, 0, none⟩), .int .i64 3] ?_
    with_reducible refine (spec_l1Rd_pick.calls k g s0_0 t417 3 t419 t420 w0 _ ?side1 ?side2 A6.out).mono ?_
    (case side1 => exact qi HI0)
    (case side2 => exact qb HI0 HB)
    rintro e w91 ⟨rfl, hi, hb, hk⟩
    refine ⟨_, rfl, ?_⟩
    have _ := kv hk (bk BK409) NB409_0
    have _ := kv hk (bk BK418) NB418_0
    have _ := ku (qk _ _ _ HK) hk
    have _ := ra (hb)
    have _ := ra (hi)
    clear BK409 BK418 HK HB HI0
    rename_i BK409 BK418 HK HB HI0
    (try clear hb)
    (try clear hb2)
    (try clear hk)
    (try clear hi)
    refine hK.out _ _ ⟨(blk_cell BK418.out 0).trans rfl, (blk_cell BK418.out 1).trans rfl, (blk_cell BK418.out 2).trans rfl, (blk_cell BK418.out 3).trans rfl, (blk_cell BK418.out 4).trans rfl, (blk_cell BK418.out 5).trans rfl⟩ (fun hHeld => ?_)
    clear hK K
    refine nm 16 ?_
    refine pu 4 17 (bl 7 31) ?_
    refine pu 5 18 (bl 7 63) ?_
    refine last_ (i := 6) (N := none) #[true, true, true, true, true, true, true] rfl rfl (by kernel_rfl) (by decide) (fun K hK => ?_)
    have hs92 : w91.cell? ⟨gb418, 3, none⟩ = some (.int .i64 0) := (blk_cell BK418.out 3).trans rfl
    have hfs92 := blk_frozen BK418.out 3
    have hns92_0 := NB409_418.out
    have hms92_0 := NB418_409.out
    refine skip_ (w1 := ?_) (by rfl) rfl ?_ ?_
    rotate_left
    ·go_simp
     rfl
    refine hK.out _ _ ?_
    clear hK K
    refine done_ (by kernel_rfl) ?_
    try go_wp2
    have n0 : Aside0 ((w91.setCell ⟨gb418, 3, none⟩ (.int .i64 (wrap64 (t414 + t419)))).heap[gb409]? = some (.cells #[.int .i64 0, .int .i64 0, .int .i64 0, .int .i64 0, .int .i64 0, .int .i64 0] 95 (0, 0))) := ⟨bk BK409⟩
    have n1 : Aside0 ((w91.setCell ⟨gb418, 3, none⟩ (.int .i64 (wrap64 (t414 + t419)))).heap[gb418]? = some (.cells #[.int .i64 t410, .int .i64 t412, .int .i64 t414, .int .i64 (wrap64 (t414 + t419)), .int .i64 t416, .int .i64 0] 95 (0, 0))) := ⟨bp BK418⟩
    have n2 : Aside0 (IsS127 w0 (w91.setCell ⟨gb418, 3, none⟩ (.int .i64 (wrap64 (t414 + t419)))) g s0_0 t420) := ⟨by exact qi HI0⟩
    have n3 : Aside0 (KeepBut w (w91.setCell ⟨gb418, 3, none⟩ (.int .i64 (wrap64 (t414 + t419)))) g none) := ⟨by exact qk _ _ _ HK⟩
    have n4 : Aside0 (Below w0.heap.size w0 (w91.setCell ⟨gb418, 3, none⟩ (.int .i64 (wrap64 (t414 + t419))))) := ⟨by exact qb HI0 HB⟩
    (try clear BK409)
    (try clear BK418)
    (try clear HI0)
    (try clear HK)
    (try clear HB)
    generalize (w91.setCell ⟨gb418, 3, none⟩ (.int .i64 (wrap64 (t414 + t419)))) = w93 at n0 n1 n2 n3 n4 ⊢
    have BK409 := n0
    have BK418 := n1
    have HI0 := n2
    have HK := n3
    have HB := n4
    clear n0 n1 n2 n3 n4
    have _ := ra (blk_drew BK409.out)
    have _ := ra (blk_drew BK418.out)
    have _ := ra (IsS127.drew HI0.out)
    have _ := ra (keep_drew HK.out)
    have _ := ra (below_drew1 HB.out)
    clear BK409 BK418 HI0 HK HB
    rename_i BK409 BK418 HI0 HK HB
    refine start_ (n := 7) (S := fun w' => w'.cell? ⟨gb418, 0, none⟩ = some (.int .i64 t410) ∧ w'.cell? ⟨gb418, 1, none⟩ = some (.int .i64 t412) ∧ w'.cell? ⟨gb418, 2, none⟩ = some (.int .i64 t414) ∧ w'.cell? ⟨gb418, 3, none⟩ = some (.int .i64 (wrap64 (t414 + t419))) ∧ w'.cell? ⟨gb418, 4, none⟩ = some (.int .i64 t416) ∧ w'.cell? ⟨gb418, 5, none⟩ = some (.int .i64 0)) (ds := [6]) #[false, false, false, false, false, false, false] (by kernel_rfl) rfl rfl ⟨(blk_cell BK418.out 0).trans rfl, (blk_cell BK418.out 1).trans rfl, (blk_cell BK418.out 2).trans rfl, (blk_cell BK418.out 3).trans rfl, (blk_cell BK418.out 4).trans rfl, (blk_cell BK418.out 5).trans rfl⟩ (fun hHeld => ?_)
    generalize w93.drew = w94 at BK409 BK418 HI0 HK HB hHeld ⊢
    refine pu 0 19 (bl 7 1) ?_
    refine pu 2 21 (bl 7 5) ?_
    refine tk 1 20 (bl 7 7) ?_ hHeld
    refine oe 3 22 (bl 7 15) (fun K hK => ?_)
    refine gs Try.func87 #[.pointer (some ⟨g, 0, none⟩), .int .i64 20] ?_
    with_reducible refine (spec_l1Rd_pick.calls k g s0_0 t420 20 t421 t422 w0 _ ?side1 ?side2 A7.out).mono ?_
    (case side1 => exact qi HI0)
    (case side2 => exact qb HI0 HB)
    rintro e w95 ⟨rfl, hi, hb, hk⟩
    refine ⟨_, rfl, ?_⟩
    have _ := kv hk (bk BK409) NB409_0
    have _ := kv hk (bk BK418) NB418_0
    have _ := ku (qk _ _ _ HK) hk
    have _ := ra (hb)
    have _ := ra (hi)
    clear BK409 BK418 HK HB HI0
    rename_i BK409 BK418 HK HB HI0
    (try clear hb)
    (try clear hb2)
    (try clear hk)
    (try clear hi)
    refine hK.out _ _ ⟨(blk_cell BK418.out 0).trans rfl, (blk_cell BK418.out 1).trans rfl, (blk_cell BK418.out 2).trans rfl, (blk_cell BK418.out 3).trans rfl, (blk_cell BK418.out 4).trans rfl, (blk_cell BK418.out 5).trans rfl⟩ (fun hHeld => ?_)
    clear hK K
    refine nm 22 ?_
    refine pu 4 23 (bl 7 31) ?_
    refine pu 5 24 (bl 7 63) ?_
    refine last_ (i := 6) (N := none) #[true, true, true, true, true, true, true] rfl rfl (by kernel_rfl) (by decide) (fun K hK => ?_)
    have hs96 : w95.cell? ⟨gb418, 5, none⟩ = some (.int .i64 0) := (blk_cell BK418.out 5).trans rfl
    have hfs96 := blk_frozen BK418.out 5
    have hns96_0 := NB409_418.out
    have hms96_0 := NB418_409.out
    refine skip_ (w1 := ?_) (by rfl) rfl ?_ ?_
    rotate_left
    ·go_simp
     rfl
    refine hK.out _ _ ?_
    clear hK K
    refine done_ (by kernel_rfl) ?_
    try go_wp2_with (first | ((with_reducible refine gate_callee (f := 87) rfl ?_); refine gl (some 26) Try.func87 #[.pointer (some ⟨g, 0, none⟩), .int .i64 24] ?_; (with_reducible refine (spec_l1Rd_pick.calls k g s0_0 t422 24 t423 t424 w0 _ ?side1 ?side2 A8.out).mono ?_); (case side1 => exact qi HI0); (case side2 => exact qb HI0 HB); rintro e w97 ⟨rfl, hi, hb, hk⟩; refine ⟨_, rfl, ?_⟩; have _ := kv hk (bk BK409) NB409_0; have _ := ra (KeepBut.blk hk (g' := gb418) (o := .cells #[.int .i64 t410, .int .i64 t412, .int .i64 t414, .int .i64 (wrap64 (t414 + t419)), .int .i64 t416, .int .i64 (wrap64 (t416 + t421))] 95 (0, 0)) (bp BK418) NB418_0.out (by simp)); have _ := ku (qk _ _ _ HK) hk; have _ := ra (hb); have _ := ra (hi); clear BK409 BK418 HK HB HI0; rename_i BK409 BK418 HK HB HI0; (try clear hb); (try clear hb2); (try clear hk); (try clear hi); obtain ⟨hcz98_0, hcz98_1, hcz98_2, hcz98_3, hcz98_4, hcz98_5, hfz98_0, hfz98_1, hfz98_2, hfz98_3, hfz98_4, hfz98_5⟩ := zc6 BK418; have hnb99 := NB409_0.out; have hnc99 := NB0_409.out; obtain ⟨hcz100_0, hcz100_1, hcz100_2, hcz100_3, hcz100_4, hcz100_5, hfz100_0, hfz100_1, hfz100_2, hfz100_3, hfz100_4, hfz100_5⟩ := zc6 BK409))
    refine bodyPost_ret (results_cell_row rfl _ _ gb409 95 #[.int .i64 t410, .int .i64 t412, .int .i64 t414, .int .i64 (wrap64 (t414 + t419)), .int .i64 t416, .int .i64 (wrap64 (t416 + t421))] (0, 0) _ rfl (bp BK409) Try.underlying95 rfl (by kernel_rfl)) rfl ?_
    exact ⟨re, by exact qi HI0, by exact qb HI0 HB, by exact qk _ _ _ HK⟩
def spec_l2Copy.T1 : Bool × List (List Nat × List Nat) := (true, [([], []), ([0], [0]), ([], []), ([], []), ([3], [3]), ([2, 4], [2, 4]), ([1, 5], [1, 5]), ([6, 5, 0, 1, 2, 3, 4, 5, 6], [6])])
def spec_l2Copy.B1 : List Nat := [0, 1, 0, 0, 8, 28, 63, 127]
theorem spec_l2Copy.tab1 : rtab .any (opsOf Try.f89 1) = spec_l2Copy.T1 := by kernel_rfl
theorem spec_l2Copy.bits1 : waitsOk spec_l2Copy.T1.2 spec_l2Copy.B1 = true := by kernel_rfl
set_option maxHeartbeats 8000000 in
set_option maxRecDepth 100000 in
theorem spec_l2Copy.calls (a0_0 : ByteArray) (A0_1 : Option Addr) (c0_1 : Nat) (l0_1 : List (S95)) (r1 : ByteArray) (r2 : List (S95)) (w : World) (hr0_1 : Kd.C k95 w A0_1 l0_1.length l0_1) (hc0_1 : l0_1.length ≤ c0_1) (h : spec_l2Copy.f a0_0 l0_1 = some (r1, r2)) :
  Calls Try.prog 89 #[.agg #[.string a0_0, .slice A0_1 l0_1.length c0_1]] w fun e w' => ∃ v1_ : Value, e = .returned (.agg #[.string r1, v1_]) ∧ Kd.R k95 95 w' w.heap.size (fun _ => True) v1_ r2 ∧ Below w.heap.size w w' := by
 have hu40 := Try.underlying40
 have HR0_1 := Aside0.mk hr0_1
 have HC0_1 := Aside0.mk hc0_1
 clear hr0_1 hc0_1
 have HB := ra (Below.refl w.heap.size w)
 have H : ((some (([] : List (S95)) : List (S95))).bind fun y516 => (if y516.length + l0_1.length < 2932031007402 then (some (a0_0, (y516 ++ l0_1))) else (none))) = some (r1, r2) := h
 clear h
 obtain ⟨y516, hy_⟩ : ∃ y_ : List (S95), y_ = (([] : List (S95))) := ⟨_, rfl⟩
 replace H : (if y516.length + l0_1.length < 2932031007402 then (some (a0_0, (y516 ++ l0_1))) else (none)) = some (r1, r2) := yh
 have Ny516 := ra hy_
 clear hy_
 by_cases c2 : y516.length + l0_1.length < 2932031007402
 ·rw [if_pos c2] at H
  have LMc2 := Aside0.mk c2
  clear c2
  obtain ⟨y519, hy_⟩ : ∃ y_ : List (S95), y_ = (y516 ++ l0_1) := ⟨_, rfl⟩
  replace H : (some (a0_0, y519)) = some (r1, r2) := yh
  have Ny519 := ra hy_
  clear hy_
  simp only [Option.some.injEq, Prod.mk.injEq] at H
  obtain ⟨rfl, rfl⟩ := H
  go_enter Try.func89, Try.ntmps89
  try go_wp2_with (first | ((with_reducible refine gate_dst (N := 1) rfl ?_); refine be 1 #[.string a0_0, .slice A0_1 l0_1.length c0_1] 40 ?_; intro gb514 hg w3 hbox hb; have _ := bs hb; have _ := ra (hbox); have _ := bz (w0 := w) hg; have _ := bz (w0 := w) hg; clear HB; rename_i HB BK514 GW514 GE514; clear hb hbox hg) | ((with_reducible refine gate_dst (N := 2) rfl ?_); refine be 2 #[.string (⟨#[]⟩ : ByteArray), .slice none 0 0] 40 ?_; intro gb515 hg w4 hbox hb; have _ := bb (bk BK514) hb; have _ := bs hb; have _ := ra (hbox); have _ := bz (w0 := w) hg; have _ := bz (w0 := w) hg; have _ := bn hg (bk BK514); have _ := bm hg (bk BK514); clear BK514 HB; rename_i BK514 HB BK515 GW515 GE515 NB514_515 NB515_514; clear hb hbox hg))
  have _ := ra (blk_drew BK514.out)
  have _ := ra (blk_drew BK515.out)
  have _ := ra (below_drew1 HB.out)
  clear BK514 BK515 HB
  rename_i BK514 BK515 HB
  refine start_ (n := 8) (S := fun w' => w'.cell? ⟨gb514, 0, none⟩ = some (.string a0_0) ∧ w'.cell? ⟨gb514, 1, none⟩ = some (.slice A0_1 l0_1.length c0_1)) (ds := []) (bl 8 0) (by kernel_rfl) rfl rfl ⟨(blk_cell BK514.out 0).trans rfl, (blk_cell BK514.out 1).trans rfl⟩ (fun hHeld => ?_); refine with_tabW spec_l2Copy.tab1 spec_l2Copy.bits1 (fun HT_ HW_ => ?_)
  generalize w4.drew = w5 at BK514 BK515 HB hHeld ⊢
  refine pu 0 3 (bl 8 1) ?_
  refine pu 3 6 (bl 8 9) ?_
  refine tk 1 4 (bl 8 11) ?_ hHeld
  refine tk 4 7 (bl 8 27) ?_ hHeld
  refine oe 2 5 (bl 8 31) (fun K hK => ?_)
  refine Kd.R_lit_step k95 _ 95 ?hg (N := 5) ?hd (xs := ([] : List (S95))) (inner := []) (ok := fun _ => True) (okp := fun _ => True) ?hr ?hp (fun _ hk => hk) trivial (Below.refl _ _) (Nat.le_refl _) (by simp) ?_; (case hd => rfl); (case hg => rfl); (case hr => first | (go_simp; done) | (go_simp; rfl)); (case hp => exact (Reps.none _ _))
  intro v517 w6 ho7 hb hg_ hnew_
  clear hg_ hnew_
  (first | rw [← Ny516.out] at ho7 | (simp only [Int.reduceToNat] at ho7; rw [← Ny516.out] at ho7))
  have _ := ra (Kd.R_lower ho7 (below_size bq))
  have _ := bb (bk BK514) hb
  have _ := bb (bk BK515) hb
  have _ := bs hb
  clear BK514 BK515 HB
  rename_i HO518 BK514 BK515 HB
  clear hb ho7
  refine hK.out _ _ ⟨(blk_cell BK514.out 0).trans rfl, (blk_cell BK514.out 1).trans rfl⟩ (fun hHeld => ?_)
  clear hK K
  refine nm 5 ?_
  refine oe 5 8 (bl 8 63) (fun K hK => ?_)
  refine Kd.R_append_rows_step k95 (w0 := w) w.heap.size (by rfl) (.tmp 5) (.tmp 7) 38 95 (.agg #[(.int .i64 0), (.int .i64 0), (.int .i64 0), (.int .i64 0), (.int .i64 0), (.int .i64 0)]) 48 rfl Try.underlying38 info95 rfl (by decide) (by omega) v517 y516 l0_1 _ _ _ (fun _ => True) (fun _ => False) rfl rfl ?aO ?aR (fun _ _ h => h) (fun _ h => h.elim) ?aF ?aB ?aS ?aL ?_
  (case aR => exact sc HR0_1)
  (case aB => exact bq)
  (case aF => exact (fun _ _ => trivial))
  (case aO => exact (rq HO518))
  (case aS => exact (below_size bq))
  (case aL => have := LMc2.out; omega)
  intro v520 w8 ho hb hg hat
  rw [← Ny519.out] at ho
  have _ := ra (blk_grown (g := gb514) (o := .cells #[.string a0_0, .slice A0_1 l0_1.length c0_1] 40 (0, 0)) (bk BK514) hg (Kd.R_ne HO518.out BK514.out (by decide)))
  have _ := ra (blk_grown (g := gb515) (o := .cells #[.string (⟨#[]⟩ : ByteArray), .slice none 0 0] 40 (0, 0)) (bk BK515) hg (Kd.R_ne HO518.out BK515.out (by decide)))
  have _ := ra (hb)
  have _ := ra (ho)
  clear BK514 BK515 HB HO518
  rename_i BK514 BK515 HB HO521
  clear ho hb hg hat
  obtain ⟨Ao9, co9, eo9⟩ := Kd.R_slice HO521.out
  (first | subst eo9 | (injection eo9 with f1_ f2_ f3_; have f4_ := f1_.symm; have f5_ := f3_.symm; clear f1_ f2_ f3_; subst f4_; subst f5_))
  refine hK.out _ _ ⟨(blk_cell BK514.out 0).trans rfl, (blk_cell BK514.out 1).trans rfl⟩ (fun hHeld => ?_)
  clear hK K
  refine nm 8 ?_
  refine pu 6 9 (bl 8 127) ?_
  refine one_ (i := 7) (N := none) #[true, true, true, true, true, true, true, true] rfl rfl (one_of HT_.out (by kernel_rfl)) (by decide) (fun K hK => ?_)
  have hs10 : w8.cell? ⟨gb515, 0, none⟩ = some (.string (⟨#[]⟩ : ByteArray)) := (blk_cell BK515.out 0).trans rfl
  have hfs10 := blk_frozen BK515.out 0
  have hns10_0 := NB514_515.out
  have hms10_0 := NB515_514.out
  have hs11 : w8.cell? ⟨gb515, 1, none⟩ = some (.slice none 0 0) := (blk_cell BK515.out 1).trans rfl
  have hfs11 := blk_frozen BK515.out 1
  have hns11_0 := NB514_515.out
  have hms11_0 := NB515_514.out
  refine skip_ (w1 := ?_) (by rfl) rfl ?_ ?_
  rotate_left
  ·go_simp
   rfl
  refine hK.out _ _ ⟨((cell_far (p := ⟨gb515, _, none⟩) NB514_515.out _).trans (((cell_far (p := ⟨gb515, _, none⟩) NB514_515.out _).trans (hHeld.1)))), ((cell_far (p := ⟨gb515, _, none⟩) NB514_515.out _).trans (((cell_far (p := ⟨gb515, _, none⟩) NB514_515.out _).trans (hHeld.2))))⟩ (fun hHeld => ?_)
  clear hK K
  refine done_ (done_of HT_.out (by kernel_rfl)) ?_
  try go_wp2
  refine bodyPost_ret (results_cell_row rfl _ _ gb515 40 #[.string a0_0, .slice Ao9 y519.length co9] (0, 0) _ rfl (bp BK515) Try.underlying40 rfl (by kernel_rfl)) rfl ?_
  exact ⟨_, re, by (with_reducible repeat (first | apply Kd.R_alloc | apply Kd.R_drewN | apply Kd.R_drew)); exact Kd.R_mono (rf (Kd.R_types HO521.out BK515.out (by decide))) (fun _ hk => trivial), bq⟩
 ·rw [if_neg c2] at H
  exact absurd H (by simp)
set_option maxHeartbeats 8000000 in
set_option maxRecDepth 100000 in
theorem spec_l1Rd_of.calls (k : Nat) (g : Nat) (s0_0 : List Int) (s0_1 : Int) (A1 : Option Addr) (c1 : Nat) (l1 : List ByteArray) (r1 : ByteArray) (r2 : Int) (w0 w : World) (hI : IsS127 w0 w g s0_0 s0_1) (hB : Below w0.heap.size w0 w) (hr1 : Kd.C Kd.string w A1 l1.length l1) (hc1 : l1.length ≤ c1) (hf1 : ∀ ad, A1 = some ad → 0 < l1.length → ad.block ≠ g) (h : spec_l1Rd_of.f k s0_0 s0_1 l1 = some (r1, r2)) :
  Calls Try.prog 108 #[.pointer (some ⟨g, 0, none⟩), .slice A1 l1.length c1] w fun e w' => e = .returned (.string r1) ∧ IsS127 w0 w' g s0_0 r2 ∧ Below w0.heap.size w0 w' ∧ KeepBut w w' g none := by
 have HR1 := Aside0.mk hr1
 have HC1 := Aside0.mk hc1
 clear hr1 hc1
 have HI0 := Aside0.mk hI
 have HK := ra (KeepBut.refl w g none)
 have HL := Aside0.mk hB.size
 clear hI
 have HW0 := Aside0.mk hB.size
 have HB := Aside0.mk hB
 clear hB
 have H : ((spec_l1Rd_pick.f k s0_0 s0_1 (l1.length : Int)).bind fun bt522 => (if 0 ≤ bt522.1 then (if bt522.1 < (l1.length : Int) then (some (rdOf ByteArray.empty l1 bt522.1, bt522.2)) else (none)) else (none))) = some (r1, r2) := h
 clear h
 obtain ⟨⟨t522, t523⟩, A3, H⟩ := bo H
 try dsimp only at H
 by_cases c4 : 0 ≤ t522
 ·rw [if_pos c4] at H
  have c4b0 : decide (0 ≤ t522) = true := decide_eq_true c4
  clear c4
  by_cases c5 : t522 < (l1.length : Int)
  ·rw [if_pos c5] at H
   have c5b0 : decide (t522 < (l1.length : Int)) = true := decide_eq_true c5
   clear c5
   simp only [Option.some.injEq, Prod.mk.injEq] at H
   obtain ⟨rfl, rfl⟩ := H
   go_enter Try.func108, Try.ntmps108
   go_wp2_with (first | ((with_reducible refine gate_callee (f := 87) rfl ?_); refine gl (some 9) Try.func87 #[.pointer (some ⟨g, 0, none⟩), .int .i64 (l1.length : Int)] ?_; (with_reducible refine (spec_l1Rd_pick.calls k g s0_0 s0_1 (l1.length : Int) t522 t523 w0 _ ?side1 ?side2 A3.out).mono ?_); (case side1 => exact qi HI0); (case side2 => exact qb HI0 HB); rintro e w6 ⟨rfl, hi, hb, hk⟩; refine ⟨_, rfl, ?_⟩; have _ := ku (qk _ _ _ HK) hk; have _ := ra (hb); have _ := ra (hi); clear HK HB HI0; rename_i HK HB HI0; (try clear hb); (try clear hb2); (try clear hk); (try clear hi); have p524 : 0 ≤ (t522 : Int) := od; have q524 : t522 < (l1.length : Int) := od; obtain ⟨ad524, e524, hx524_0⟩ := Kd.at_string HR1.out t522 p524 q524; cases e524; replace hx524_0 := keep_cell HK.out hx524_0 (by first | (rw [add_block]; exact hf1 _ rfl (by omega)) | exact hf1 _ rfl (by omega) | exact hf1 ad524 rfl (by omega)); replace p524 := eq_true p524; replace q524 := eq_true q524))
   go_ret
   exact ⟨re, by exact qi HI0, by exact qb HI0 HB, by exact qk _ _ _ HK⟩
  ·rw [if_neg c5] at H
   exact absurd H (by simp)
 ·rw [if_neg c4] at H
  exact absurd H (by simp)
set_option maxHeartbeats 8000000 in
set_option maxRecDepth 100000 in
theorem spec_l1Many.calls (k : Nat) (a0 : ByteArray) (a1 : Int) (r : ByteArray) (w : World) (h : spec_l1Many.f k a0 a1 = some r) :
  Calls Try.prog 109 #[.string a0, .int .i64 a1] w fun e w' => e = .returned (.string r) ∧ Drawn0 w w' := by
 have H : (spec_l1Many.l0 k a0 a1 (⟨#[]⟩ : ByteArray)) = some r := h
 clear h
 have H' := Aside0.mk H
 clear H
 go_enter Try.func109, Try.ntmps109
 go_wp2
 go_loopg [0, 1, 5] k (fun kq v0 v1 v5 w' => ∃ (x0_1 : ByteArray) (x1_1 : Int) (x5_1 : ByteArray), v0 = .string x0_1 ∧ v1 = .int .i64 x1_1 ∧ v5 = .string x5_1 ∧ Aside0 (spec_l1Many.l0 kq x0_1 x1_1 x5_1 = some r) ∧ Aside0 (kq ≤ k) ∧ Drawn0 w w')
 case atStart => exact ⟨(a0), (a1), ((⟨#[]⟩ : ByteArray)), rs, rs, rs, H', ⟨Nat.le_refl _⟩, by repeat (first | exact Drawn0.refl _ | apply Drawn0.step)⟩
 case round =>
  clear H'
  obtain ⟨x0_1, x1_1, x5_1, rfl, rfl, rfl, HA, HK1, ⟨m1, rfl⟩⟩ := hrel
  cases gk with
  | zero => exact absurd HA.out (by simp [spec_l1Many.l0])
  | succ k1 =>
   have H := HA.out
   clear HA
   simp only [spec_l1Many.l0] at H
   by_cases c3 : x1_1 > 0
   ·rw [if_pos c3] at H
    have c3b0 : decide (0 < x1_1) = true := decide_eq_true c3
    clear c3
    by_cases c4 : (Int.tmod x1_1 2) = 1
    ·rw [if_pos c4] at H
     have c4b0 : ((Int.tmod x1_1 2) == 1) = true := beq_iff_eq.mpr c4
     have c4b1 : ((Int.tmod x1_1 2) != 1) = false := bne_eq_false_iff_eq.mpr c4
     clear c4
     by_cases c5 : x5_1.size + x0_1.size ≤ 9223372036854775807
     ·rw [if_pos c5] at H
      have c5b0 := eq_true c5
      have c5b1 : decide (x5_1.size + x0_1.size ≤ 9223372036854775807) = true := decide_eq_true c5
      try have c5b2 : (9223372036854775807 < x5_1.size + x0_1.size) = False := eq_false (Nat.not_lt.2 c5)
      by_cases c6 : x0_1.size + x0_1.size ≤ 9223372036854775807
      ·rw [if_pos c6] at H
       have c6b0 := eq_true c6
       have c6b1 : decide (x0_1.size + x0_1.size ≤ 9223372036854775807) = true := decide_eq_true c6
       try have c6b2 : (9223372036854775807 < x0_1.size + x0_1.size) = False := eq_false (Nat.not_lt.2 c6)
       have H' := Aside0.mk H
       clear H
       go_wp2
       go_roundg k1
       case measure => have := HK1.out; omega
       case rel => exact ⟨(x0_1 ++ x0_1), (wrap64 (Int.tdiv x1_1 2)), (x5_1 ++ x0_1), rs, rs, rs, H', ⟨by have := HK1.out; omega⟩, by repeat (first | exact Drawn0.refl _ | apply Drawn0.step)⟩
      ·rw [if_neg c6] at H
       exact absurd H (by simp)
     ·rw [if_neg c5] at H
      exact absurd H (by simp)
    ·rw [if_neg c4] at H
     have c4b0 : ((Int.tmod x1_1 2) == 1) = false := beq_eq_false_iff_ne.mpr c4
     have c4b1 : ((Int.tmod x1_1 2) != 1) = true := bne_iff_ne.mpr c4
     by_cases c7 : x0_1.size + x0_1.size ≤ 9223372036854775807
     ·rw [if_pos c7] at H
      have c7b0 := eq_true c7
      have c7b1 : decide (x0_1.size + x0_1.size ≤ 9223372036854775807) = true := decide_eq_true c7
      try have c7b2 : (9223372036854775807 < x0_1.size + x0_1.size) = False := eq_false (Nat.not_lt.2 c7)
      have H' := Aside0.mk H
      clear H
      go_wp2
      go_roundg k1
      case measure => have := HK1.out; omega
      case rel => exact ⟨(x0_1 ++ x0_1), (wrap64 (Int.tdiv x1_1 2)), (x5_1), rs, rs, rs, H', ⟨by have := HK1.out; omega⟩, by repeat (first | exact Drawn0.refl _ | apply Drawn0.step)⟩
     ·rw [if_neg c7] at H
      exact absurd H (by simp)
   ·rw [if_neg c3] at H
    have c3b0 : decide (0 < x1_1) = false := decide_eq_false c3
    clear c3
    obtain rfl := Option.some.inj H
    go_wp2
    go_ret
    exact ⟨by first | rfl | (simp; done) | (simp [*]; done), by repeat (first | exact Drawn0.refl _ | apply Drawn0.step)⟩
def spec_l1SpoilBox.T8 : Bool × List (List Nat × List Nat) := (true, [([], []), ([0], [0]), ([1], [1]), ([], []), ([3], [3]), ([2, 4], [2, 4]), ([], []), ([6], [6]), ([5, 7], [5, 7]), ([8], [8]), ([0, 1, 2, 3, 4, 5, 6, 7, 8, 9], []), ([10, 9, 7, 0, 1, 2, 3, 4, 5, 6, 7, 8, 9], [9, 10])])
def spec_l1SpoilBox.B8 : List Nat := [0, 1, 3, 0, 8, 31, 0, 64, 255, 511, 1023, 2047]
theorem spec_l1SpoilBox.tab8 : rtab .any (opsOf Try.f111 8) = spec_l1SpoilBox.T8 := by kernel_rfl
theorem spec_l1SpoilBox.bits8 : waitsOk spec_l1SpoilBox.T8.2 spec_l1SpoilBox.B8 = true := by kernel_rfl
def spec_l1SpoilBox.T12 : Bool × List (List Nat × List Nat) := (true, [([], []), ([0], [0]), ([], []), ([2], [2]), ([3], [3]), ([1, 4], [1, 4]), ([], []), ([6], [6]), ([5, 7], [5, 7]), ([8], [8]), ([0, 1, 2, 3, 4, 5, 6, 7, 8, 9], []), ([10, 9, 7, 0, 1, 2, 3, 4, 5, 6, 7, 8, 9], [9, 10])])
def spec_l1SpoilBox.B12 : List Nat := [0, 1, 0, 4, 12, 31, 0, 64, 255, 511, 1023, 2047]
theorem spec_l1SpoilBox.tab12 : rtab .any (opsOf Try.f111 12) = spec_l1SpoilBox.T12 := by kernel_rfl
theorem spec_l1SpoilBox.bits12 : waitsOk spec_l1SpoilBox.T12.2 spec_l1SpoilBox.B12 = true := by kernel_rfl
set_option maxHeartbeats 8000000 in
set_option maxRecDepth 100000 in
theorem spec_l1SpoilBox.calls (k : Nat) (g : Nat) (s0_0 : List Int) (s0_1 : Int) (a1_0 : Int) (a1_1 : Int) (a1_2 : Int) (a1_3 : Int) (a1_4 : Int) (a1_5 : Int) (r1 : Int) (r2 : Int) (r3 : Int) (r4 : Int) (r5 : Int) (r6 : Int) (r7 : Int) (w0 w : World) (hI : IsS127 w0 w g s0_0 s0_1) (hB : Below w0.heap.size w0 w) (h : spec_l1SpoilBox.f k s0_0 s0_1 a1_0 a1_1 a1_2 a1_3 a1_4 a1_5 = some (r1, r2, r3, r4, r5, r6, r7)) :
  Calls Try.prog 111 #[.pointer (some ⟨g, 0, none⟩), .agg #[.int .i64 a1_0, .int .i64 a1_1, .int .i64 a1_2, .int .i64 a1_3, .int .i64 a1_4, .int .i64 a1_5]] w fun e w' => e = .returned (.agg #[.int .i64 r1, .int .i64 r2, .int .i64 r3, .int .i64 r4, .int .i64 r5, .int .i64 r6]) ∧ IsS127 w0 w' g s0_0 r7 ∧ Below w0.heap.size w0 w' ∧ KeepBut w w' g none := by
 have hu95 := Try.underlying95
 have HI0 := Aside0.mk hI
 have HK := ra (KeepBut.refl w g none)
 have HL := Aside0.mk hB.size
 clear hI
 have HW0 := Aside0.mk hB.size
 have HB := Aside0.mk hB
 clear hB
 have H : ((spec_l1Rd_pick.f k s0_0 s0_1 6).bind fun bt527 => (if bt527.1 = 0 then ((some (([(-1), 16, (-9223372036854775808), 9223372036854775807] : List Int) : List Int)).bind fun y529 => ((spec_l1Rd_pick.f k s0_0 bt527.2 4).bind fun bt532 => (if 0 ≤ bt532.1 then (if bt532.1 < (y529.length : Int) then (some (rd y529 bt532.1, a1_1, a1_2, a1_3, a1_4, a1_5, bt532.2)) else (none)) else (none)))) else (if bt527.1 = 1 then ((some (([(-1), 16] : List Int) : List Int)).bind fun y535 => ((spec_l1Rd_pick.f k s0_0 bt527.2 2).bind fun bt538 => (if 0 ≤ bt538.1 then (if bt538.1 < (y535.length : Int) then (some (a1_0, rd y535 bt538.1, a1_2, a1_3, a1_4, a1_5, bt538.2)) else (none)) else (none)))) else (if bt527.1 = 2 then ((some (([(-1), wrap64 (a1_3 + 1), a1_3] : List Int) : List Int)).bind fun y541 => ((spec_l1Rd_pick.f k s0_0 bt527.2 3).bind fun bt544 => (if 0 ≤ bt544.1 then (if bt544.1 < (y541.length : Int) then (some (a1_0, a1_1, rd y541 bt544.1, a1_3, a1_4, a1_5, bt544.2)) else (none)) else (none)))) else (if bt527.1 = 3 then ((some (([6, 7] : List Int) : List Int)).bind fun y547 => ((spec_l1Rd_pick.f k s0_0 bt527.2 2).bind fun bt550 => (if 0 ≤ bt550.1 then (if bt550.1 < (y547.length : Int) then (some (a1_0, a1_1, a1_2, rd y547 bt550.1, a1_4, a1_5, bt550.2)) else (none)) else (none)))) else (if bt527.1 = 4 then ((some (([(-1), a1_5, wrap64 (a1_5 + 1)] : List Int) : List Int)).bind fun y553 => ((spec_l1Rd_pick.f k s0_0 bt527.2 3).bind fun bt556 => (if 0 ≤ bt556.1 then (if bt556.1 < (y553.length : Int) then (some (a1_0, a1_1, a1_2, a1_3, rd y553 bt556.1, a1_5, bt556.2)) else (none)) else (none)))) else ((some (([10000, 10001] : List Int) : List Int)).bind fun y559 => ((spec_l1Rd_pick.f k s0_0 bt527.2 2).bind fun bt562 => (if 0 ≤ bt562.1 then (if bt562.1 < (y559.length : Int) then (some (a1_0, a1_1, a1_2, a1_3, a1_4, rd y559 bt562.1, bt562.2)) else (none)) else (none)))))))))) = some (r1, r2, r3, r4, r5, r6, r7) := h
 clear h
 obtain ⟨⟨t527, t528⟩, A3, H⟩ := bo H
 try dsimp only at H
 by_cases c4 : t527 = 0
 ·rw [if_pos c4] at H
  have c4b0 : (t527 == 0) = true := beq_iff_eq.mpr c4
  have c4b1 : (t527 != 0) = false := bne_eq_false_iff_eq.mpr c4
  clear c4
  obtain ⟨y529, hy_⟩ : ∃ y_ : List Int, y_ = (([(-1), 16, (-9223372036854775808), 9223372036854775807] : List Int)) := ⟨_, rfl⟩
  replace H : ((spec_l1Rd_pick.f k s0_0 t528 4).bind fun bt532 => (if 0 ≤ bt532.1 then (if bt532.1 < (y529.length : Int) then (some (rd y529 bt532.1, a1_1, a1_2, a1_3, a1_4, a1_5, bt532.2)) else (none)) else (none))) = some (r1, r2, r3, r4, r5, r6, r7) := yh
  have Ny529 := ra hy_
  clear hy_
  obtain ⟨⟨t532, t533⟩, A5, H⟩ := bo H
  try dsimp only at H
  by_cases c6 : 0 ≤ t532
  ·rw [if_pos c6] at H
   have c6b0 : decide (0 ≤ t532) = true := decide_eq_true c6
   clear c6
   by_cases c7 : t532 < (y529.length : Int)
   ·rw [if_pos c7] at H
    have c7b0 : decide (t532 < (y529.length : Int)) = true := decide_eq_true c7
    clear c7
    simp only [Option.some.injEq, Prod.mk.injEq] at H
    obtain ⟨rfl, rfl, rfl, rfl, rfl, rfl, rfl⟩ := H
    go_enter Try.func111, Try.ntmps111
    go_wp2_with (first | ((with_reducible refine gate_dst (N := 3) rfl ?_); refine be 3 #[.int .i64 a1_0, .int .i64 a1_1, .int .i64 a1_2, .int .i64 a1_3, .int .i64 a1_4, .int .i64 a1_5] 95 ?_; intro gb525 hg w8 hbox hb; have _ := ra (IsS127.below (qi HI0) hb); have _ := kt (qk _ _ _ HK) hb; have _ := ra (below_step (qb HI0 HB) hb); have _ := ra (hbox); have _ := ns hg (qk w _ g HK); have _ := nt hg HW0 (qk w _ g HK); have _ := nl hg (qi HI0); have _ := nr hg (qi HI0); clear HI0 HK HB; rename_i HI0 HK HB BK525 GW525 GE525 NB0_525 NB525_0; clear hb hbox hg) | ((with_reducible refine gate_dst (N := 4) rfl ?_); refine be 4 #[.int .i64 0, .int .i64 0, .int .i64 0, .int .i64 0, .int .i64 0, .int .i64 0] 95 ?_; intro gb526 hg w9 hbox hb; have _ := ra (IsS127.below (qi HI0) hb); have _ := bb (bk BK525) hb; have _ := kt (qk _ _ _ HK) hb; have _ := ra (below_step (qb HI0 HB) hb); have _ := ra (hbox); have _ := ns hg (qk w _ g HK); have _ := nt hg HW0 (qk w _ g HK); have _ := bn hg (bk BK525); have _ := bm hg (bk BK525); have _ := nl hg (qi HI0); have _ := nr hg (qi HI0); clear HI0 BK525 HK HB; rename_i HI0 BK525 HK HB BK526 GW526 GE526 NB525_526 NB526_525 NB0_526 NB526_0; clear hb hbox hg) | ((with_reducible refine gate_callee (f := 87) rfl ?_); refine gl (some 6) Try.func87 #[.pointer (some ⟨g, 0, none⟩), .int .i64 6] ?_; (with_reducible refine (spec_l1Rd_pick.calls k g s0_0 s0_1 6 t527 t528 w0 _ ?side1 ?side2 A3.out).mono ?_); (case side1 => exact qi HI0); (case side2 => exact qb HI0 HB); rintro e w10 ⟨rfl, hi, hb, hk⟩; refine ⟨_, rfl, ?_⟩; have _ := kv hk (bk BK525) NB525_0; have _ := kv hk (bk BK526) NB526_0; have _ := ku (qk _ _ _ HK) hk; have _ := ra (hb); have _ := ra (hi); clear BK525 BK526 HK HB HI0; rename_i BK525 BK526 HK HB HI0; (try clear hb); (try clear hb2); (try clear hk); (try clear hi)) | ((with_reducible refine gate_dst (N := 15) rfl ?_); refine Kd.R_lit (Kd.int .i64) _ 3 ?hg (N := 15) ?hd (xs := ([(-1), 16, (-9223372036854775808), 9223372036854775807] : List Int)) (inner := [.int .i64 (-1), .int .i64 16, .int .i64 (-9223372036854775808), .int .i64 9223372036854775807]) (ok := fun _ => True) (okp := fun _ => True) ?hr ?hp (fun _ hk => hk) trivial (Below.refl _ _) (Nat.le_refl _) (by simp) ?_; (case hd => rfl); (case hg => rfl); (case hr => first | (go_simp; done) | (go_simp; rfl)); (case hp => exact (Reps.one (show Kd.M (Kd.int .i64) _ _ _ (-1) [.int .i64 (-1)] from rfl) (Reps.one (show Kd.M (Kd.int .i64) _ _ _ 16 [.int .i64 16] from rfl) (Reps.one (show Kd.M (Kd.int .i64) _ _ _ (-9223372036854775808) [.int .i64 (-9223372036854775808)] from rfl) (Reps.one (show Kd.M (Kd.int .i64) _ _ _ 9223372036854775807 [.int .i64 9223372036854775807] from rfl) (Reps.none _ _)))))); intro v530 w11 ho12 hb hg_ hnew_; clear hg_ hnew_; (first | rw [← Ny529.out] at ho12 | (simp only [Int.reduceToNat] at ho12; rw [← Ny529.out] at ho12)); have _ := ra (Kd.R_lower ho12 (keep_size (w := w) (g := g) (row := none) (qk _ _ _ HK))); have _ := ra (IsS127.below (qi HI0) hb); have _ := bb (bk BK525) hb; have _ := bb (bk BK526) hb; have _ := kt (qk _ _ _ HK) hb; have _ := ra (below_step (qb HI0 HB) hb); clear HI0 BK525 BK526 HK HB; rename_i HO531 HI0 BK525 BK526 HK HB; clear hb ho12) | ((with_reducible refine gate_callee (f := 87) rfl ?_); refine gl (some 17) Try.func87 #[.pointer (some ⟨g, 0, none⟩), .int .i64 4] ?_; (with_reducible refine (spec_l1Rd_pick.calls k g s0_0 t528 4 t532 t533 w0 _ ?side1 ?side2 A5.out).mono ?_); (case side1 => exact qi HI0); (case side2 => exact qb HI0 HB); rintro e w13 ⟨rfl, hi, hb, hk⟩; refine ⟨_, rfl, ?_⟩; have _ := kv hk (bk BK525) NB525_0; have _ := kv hk (bk BK526) NB526_0; have _ := ra (Kd.R_mono (Kd.R_keep (IsS127.apart (show IsS127 w0 _ g s0_0 t528 from qi HI0) (rq HO531) (by decide)) hk (fun _ h => h.2)) (fun _ h => h.1)); have _ := ku (qk _ _ _ HK) hk; have _ := ra (hb); have _ := ra (hi); clear BK525 BK526 HO531 HK HB HI0; rename_i BK525 BK526 HO531 HK HB HI0; (try clear hb); (try clear hb2); (try clear hk); (try clear hi); obtain ⟨Ao14, co14, eo14⟩ := Kd.R_slice HO531.out; subst eo14; have p534 : 0 ≤ (t532 : Int) := od; have q534 : t532 < (y529.length : Int) := od; obtain ⟨ad534, e534, hx534_0⟩ := Kd.at_int (Kd.R_reads' HO531.out).2.2 t532 p534 q534; cases e534; replace p534 := eq_true p534; replace q534 := eq_true q534; have hnb15 := NB525_526.out; have hnc15 := NB526_525.out; have hnb16 := NB525_0.out; have hnc16 := NB0_525.out; obtain ⟨hcz17_0, hcz17_1, hcz17_2, hcz17_3, hcz17_4, hcz17_5, hfz17_0, hfz17_1, hfz17_2, hfz17_3, hfz17_4, hfz17_5⟩ := zc6 BK525; have hnb18 := NB526_0.out; have hnc18 := NB0_526.out; obtain ⟨hcz19_0, hcz19_1, hcz19_2, hcz19_3, hcz19_4, hcz19_5, hfz19_0, hfz19_1, hfz19_2, hfz19_3, hfz19_4, hfz19_5⟩ := zc6 BK526))
    refine bodyPost_ret (results_cell_row rfl _ _ gb526 95 #[.int .i64 (rd y529 t532), .int .i64 a1_1, .int .i64 a1_2, .int .i64 a1_3, .int .i64 a1_4, .int .i64 a1_5] (0, 0) _ rfl (bp BK526) Try.underlying95 rfl (by kernel_rfl)) rfl ?_
    exact ⟨re, by exact qi HI0, by exact qb HI0 HB, by exact qk _ _ _ HK⟩
   ·rw [if_neg c7] at H
    exact absurd H (by simp)
  ·rw [if_neg c6] at H
   exact absurd H (by simp)
 ·rw [if_neg c4] at H
  have c4b0 : (t527 == 0) = false := beq_eq_false_iff_ne.mpr c4
  have c4b1 : (t527 != 0) = true := bne_iff_ne.mpr c4
  by_cases c20 : t527 = 1
  ·rw [if_pos c20] at H
   have c20b0 : (t527 == 1) = true := beq_iff_eq.mpr c20
   have c20b1 : (t527 != 1) = false := bne_eq_false_iff_eq.mpr c20
   clear c20
   obtain ⟨y535, hy_⟩ : ∃ y_ : List Int, y_ = (([(-1), 16] : List Int)) := ⟨_, rfl⟩
   replace H : ((spec_l1Rd_pick.f k s0_0 t528 2).bind fun bt538 => (if 0 ≤ bt538.1 then (if bt538.1 < (y535.length : Int) then (some (a1_0, rd y535 bt538.1, a1_2, a1_3, a1_4, a1_5, bt538.2)) else (none)) else (none))) = some (r1, r2, r3, r4, r5, r6, r7) := yh
   have Ny535 := ra hy_
   clear hy_
   obtain ⟨⟨t538, t539⟩, A21, H⟩ := bo H
   try dsimp only at H
   by_cases c22 : 0 ≤ t538
   ·rw [if_pos c22] at H
    have c22b0 : decide (0 ≤ t538) = true := decide_eq_true c22
    clear c22
    by_cases c23 : t538 < (y535.length : Int)
    ·rw [if_pos c23] at H
     have c23b0 : decide (t538 < (y535.length : Int)) = true := decide_eq_true c23
     clear c23
     simp only [Option.some.injEq, Prod.mk.injEq] at H
     obtain ⟨rfl, rfl, rfl, rfl, rfl, rfl, rfl⟩ := H
     go_enter Try.func111, Try.ntmps111
     go_wp2_with (first | ((with_reducible refine gate_dst (N := 3) rfl ?_); refine be 3 #[.int .i64 a1_0, .int .i64 a1_1, .int .i64 a1_2, .int .i64 a1_3, .int .i64 a1_4, .int .i64 a1_5] 95 ?_; intro gb525 hg w24 hbox hb; have _ := ra (IsS127.below (qi HI0) hb); have _ := kt (qk _ _ _ HK) hb; have _ := ra (below_step (qb HI0 HB) hb); have _ := ra (hbox); have _ := ns hg (qk w _ g HK); have _ := nt hg HW0 (qk w _ g HK); have _ := nl hg (qi HI0); have _ := nr hg (qi HI0); clear HI0 HK HB; rename_i HI0 HK HB BK525 GW525 GE525 NB0_525 NB525_0; clear hb hbox hg) | ((with_reducible refine gate_dst (N := 4) rfl ?_); refine be 4 #[.int .i64 0, .int .i64 0, .int .i64 0, .int .i64 0, .int .i64 0, .int .i64 0] 95 ?_; intro gb526 hg w25 hbox hb; have _ := ra (IsS127.below (qi HI0) hb); have _ := bb (bk BK525) hb; have _ := kt (qk _ _ _ HK) hb; have _ := ra (below_step (qb HI0 HB) hb); have _ := ra (hbox); have _ := ns hg (qk w _ g HK); have _ := nt hg HW0 (qk w _ g HK); have _ := bn hg (bk BK525); have _ := bm hg (bk BK525); have _ := nl hg (qi HI0); have _ := nr hg (qi HI0); clear HI0 BK525 HK HB; rename_i HI0 BK525 HK HB BK526 GW526 GE526 NB525_526 NB526_525 NB0_526 NB526_0; clear hb hbox hg) | ((with_reducible refine gate_callee (f := 87) rfl ?_); refine gl (some 6) Try.func87 #[.pointer (some ⟨g, 0, none⟩), .int .i64 6] ?_; (with_reducible refine (spec_l1Rd_pick.calls k g s0_0 s0_1 6 t527 t528 w0 _ ?side1 ?side2 A3.out).mono ?_); (case side1 => exact qi HI0); (case side2 => exact qb HI0 HB); rintro e w26 ⟨rfl, hi, hb, hk⟩; refine ⟨_, rfl, ?_⟩; have _ := kv hk (bk BK525) NB525_0; have _ := kv hk (bk BK526) NB526_0; have _ := ku (qk _ _ _ HK) hk; have _ := ra (hb); have _ := ra (hi); clear BK525 BK526 HK HB HI0; rename_i BK525 BK526 HK HB HI0; (try clear hb); (try clear hb2); (try clear hk); (try clear hi)) | ((with_reducible refine gate_dst (N := 23) rfl ?_); refine Kd.R_lit (Kd.int .i64) _ 3 ?hg (N := 23) ?hd (xs := ([(-1), 16] : List Int)) (inner := [.int .i64 (-1), .int .i64 16]) (ok := fun _ => True) (okp := fun _ => True) ?hr ?hp (fun _ hk => hk) trivial (Below.refl _ _) (Nat.le_refl _) (by simp) ?_; (case hd => rfl); (case hg => rfl); (case hr => first | (go_simp; done) | (go_simp; rfl)); (case hp => exact (Reps.one (show Kd.M (Kd.int .i64) _ _ _ (-1) [.int .i64 (-1)] from rfl) (Reps.one (show Kd.M (Kd.int .i64) _ _ _ 16 [.int .i64 16] from rfl) (Reps.none _ _)))); intro v536 w27 ho28 hb hg_ hnew_; clear hg_ hnew_; (first | rw [← Ny535.out] at ho28 | (simp only [Int.reduceToNat] at ho28; rw [← Ny535.out] at ho28)); have _ := ra (Kd.R_lower ho28 (keep_size (w := w) (g := g) (row := none) (qk _ _ _ HK))); have _ := ra (IsS127.below (qi HI0) hb); have _ := bb (bk BK525) hb; have _ := bb (bk BK526) hb; have _ := kt (qk _ _ _ HK) hb; have _ := ra (below_step (qb HI0 HB) hb); clear HI0 BK525 BK526 HK HB; rename_i HO537 HI0 BK525 BK526 HK HB; clear hb ho28) | ((with_reducible refine gate_callee (f := 87) rfl ?_); refine gl (some 25) Try.func87 #[.pointer (some ⟨g, 0, none⟩), .int .i64 2] ?_; (with_reducible refine (spec_l1Rd_pick.calls k g s0_0 t528 2 t538 t539 w0 _ ?side1 ?side2 A21.out).mono ?_); (case side1 => exact qi HI0); (case side2 => exact qb HI0 HB); rintro e w29 ⟨rfl, hi, hb, hk⟩; refine ⟨_, rfl, ?_⟩; have _ := kv hk (bk BK525) NB525_0; have _ := kv hk (bk BK526) NB526_0; have _ := ra (Kd.R_mono (Kd.R_keep (IsS127.apart (show IsS127 w0 _ g s0_0 t528 from qi HI0) (rq HO537) (by decide)) hk (fun _ h => h.2)) (fun _ h => h.1)); have _ := ku (qk _ _ _ HK) hk; have _ := ra (hb); have _ := ra (hi); clear BK525 BK526 HO537 HK HB HI0; rename_i BK525 BK526 HO537 HK HB HI0; (try clear hb); (try clear hb2); (try clear hk); (try clear hi); obtain ⟨Ao30, co30, eo30⟩ := Kd.R_slice HO537.out; subst eo30; have p540 : 0 ≤ (t538 : Int) := od; have q540 : t538 < (y535.length : Int) := od; obtain ⟨ad540, e540, hx540_0⟩ := Kd.at_int (Kd.R_reads' HO537.out).2.2 t538 p540 q540; cases e540; replace p540 := eq_true p540; replace q540 := eq_true q540; have hnb31 := NB525_526.out; have hnc31 := NB526_525.out; have hnb32 := NB525_0.out; have hnc32 := NB0_525.out; obtain ⟨hcz33_0, hcz33_1, hcz33_2, hcz33_3, hcz33_4, hcz33_5, hfz33_0, hfz33_1, hfz33_2, hfz33_3, hfz33_4, hfz33_5⟩ := zc6 BK525; have hnb34 := NB526_0.out; have hnc34 := NB0_526.out; obtain ⟨hcz35_0, hcz35_1, hcz35_2, hcz35_3, hcz35_4, hcz35_5, hfz35_0, hfz35_1, hfz35_2, hfz35_3, hfz35_4, hfz35_5⟩ := zc6 BK526))
     refine bodyPost_ret (results_cell_row rfl _ _ gb526 95 #[.int .i64 a1_0, .int .i64 (rd y535 t538), .int .i64 a1_2, .int .i64 a1_3, .int .i64 a1_4, .int .i64 a1_5] (0, 0) _ rfl (bp BK526) Try.underlying95 rfl (by kernel_rfl)) rfl ?_
     exact ⟨re, by exact qi HI0, by exact qb HI0 HB, by exact qk _ _ _ HK⟩
    ·rw [if_neg c23] at H
     exact absurd H (by simp)
   ·rw [if_neg c22] at H
    exact absurd H (by simp)
  ·rw [if_neg c20] at H
   have c20b0 : (t527 == 1) = false := beq_eq_false_iff_ne.mpr c20
   have c20b1 : (t527 != 1) = true := bne_iff_ne.mpr c20
   by_cases c36 : t527 = 2
   ·rw [if_pos c36] at H
    have c36b0 : (t527 == 2) = true := beq_iff_eq.mpr c36
    have c36b1 : (t527 != 2) = false := bne_eq_false_iff_eq.mpr c36
    clear c36
    obtain ⟨y541, hy_⟩ : ∃ y_ : List Int, y_ = (([(-1), wrap64 (a1_3 + 1), a1_3] : List Int)) := ⟨_, rfl⟩
    replace H : ((spec_l1Rd_pick.f k s0_0 t528 3).bind fun bt544 => (if 0 ≤ bt544.1 then (if bt544.1 < (y541.length : Int) then (some (a1_0, a1_1, rd y541 bt544.1, a1_3, a1_4, a1_5, bt544.2)) else (none)) else (none))) = some (r1, r2, r3, r4, r5, r6, r7) := yh
    have Ny541 := ra hy_
    clear hy_
    obtain ⟨⟨t544, t545⟩, A37, H⟩ := bo H
    try dsimp only at H
    by_cases c38 : 0 ≤ t544
    ·rw [if_pos c38] at H
     have c38b0 : decide (0 ≤ t544) = true := decide_eq_true c38
     clear c38
     by_cases c39 : t544 < (y541.length : Int)
     ·rw [if_pos c39] at H
      have c39b0 : decide (t544 < (y541.length : Int)) = true := decide_eq_true c39
      clear c39
      simp only [Option.some.injEq, Prod.mk.injEq] at H
      obtain ⟨rfl, rfl, rfl, rfl, rfl, rfl, rfl⟩ := H
      go_enter Try.func111, Try.ntmps111
      try go_wp2_with (first | ((with_reducible refine gate_dst (N := 3) rfl ?_); refine be 3 #[.int .i64 a1_0, .int .i64 a1_1, .int .i64 a1_2, .int .i64 a1_3, .int .i64 a1_4, .int .i64 a1_5] 95 ?_; intro gb525 hg w40 hbox hb; have _ := ra (IsS127.below (qi HI0) hb); have _ := kt (qk _ _ _ HK) hb; have _ := ra (below_step (qb HI0 HB) hb); have _ := ra (hbox); have _ := ns hg (qk w _ g HK); have _ := nt hg HW0 (qk w _ g HK); have _ := nl hg (qi HI0); have _ := nr hg (qi HI0); clear HI0 HK HB; rename_i HI0 HK HB BK525 GW525 GE525 NB0_525 NB525_0; clear hb hbox hg) | ((with_reducible refine gate_dst (N := 4) rfl ?_); refine be 4 #[.int .i64 0, .int .i64 0, .int .i64 0, .int .i64 0, .int .i64 0, .int .i64 0] 95 ?_; intro gb526 hg w41 hbox hb; have _ := ra (IsS127.below (qi HI0) hb); have _ := bb (bk BK525) hb; have _ := kt (qk _ _ _ HK) hb; have _ := ra (below_step (qb HI0 HB) hb); have _ := ra (hbox); have _ := ns hg (qk w _ g HK); have _ := nt hg HW0 (qk w _ g HK); have _ := bn hg (bk BK525); have _ := bm hg (bk BK525); have _ := nl hg (qi HI0); have _ := nr hg (qi HI0); clear HI0 BK525 HK HB; rename_i HI0 BK525 HK HB BK526 GW526 GE526 NB525_526 NB526_525 NB0_526 NB526_0; clear hb hbox hg) | ((with_reducible refine gate_callee (f := 87) rfl ?_); refine gl (some 6) Try.func87 #[.pointer (some ⟨g, 0, none⟩), .int .i64 6] ?_; (with_reducible refine (spec_l1Rd_pick.calls k g s0_0 s0_1 6 t527 t528 w0 _ ?side1 ?side2 A3.out).mono ?_); (case side1 => exact qi HI0); (case side2 => exact qb HI0 HB); rintro e w42 ⟨rfl, hi, hb, hk⟩; refine ⟨_, rfl, ?_⟩; have _ := kv hk (bk BK525) NB525_0; have _ := kv hk (bk BK526) NB526_0; have _ := ku (qk _ _ _ HK) hk; have _ := ra (hb); have _ := ra (hi); clear BK525 BK526 HK HB HI0; rename_i BK525 BK526 HK HB HI0; (try clear hb); (try clear hb2); (try clear hk); (try clear hi)))
      have pi546 : (0 ≤ (t544 : Int)) = True := eq_true (od)
      have qi546 : (t544 < (y541.length : Int)) = True := eq_true (od)
      have _ := ra (blk_drew BK525.out)
      have _ := ra (blk_drew BK526.out)
      have _ := ra (IsS127.drew HI0.out)
      have _ := ra (keep_drew HK.out)
      have _ := ra (below_drew1 HB.out)
      clear BK525 BK526 HI0 HK HB
      rename_i BK525 BK526 HI0 HK HB
      refine start_ (n := 12) (S := fun w' => w'.cell? ⟨gb525, 0, none⟩ = some (.int .i64 a1_0) ∧ w'.cell? ⟨gb525, 1, none⟩ = some (.int .i64 a1_1) ∧ w'.cell? ⟨gb525, 2, none⟩ = some (.int .i64 a1_2) ∧ w'.cell? ⟨gb525, 3, none⟩ = some (.int .i64 a1_3) ∧ w'.cell? ⟨gb525, 4, none⟩ = some (.int .i64 a1_4) ∧ w'.cell? ⟨gb525, 5, none⟩ = some (.int .i64 a1_5)) (ds := [11]) #[false, false, false, false, false, false, false, false, false, false, false, false] (by kernel_rfl) rfl rfl ⟨(blk_cell BK525.out 0).trans rfl, (blk_cell BK525.out 1).trans rfl, (blk_cell BK525.out 2).trans rfl, (blk_cell BK525.out 3).trans rfl, (blk_cell BK525.out 4).trans rfl, (blk_cell BK525.out 5).trans rfl⟩ (fun hHeld => ?_); refine with_tabW spec_l1SpoilBox.tab8 spec_l1SpoilBox.bits8 (fun HT_ HW_ => ?_)
      generalize w42.drew = w43 at BK525 BK526 HI0 HK HB hHeld ⊢
      refine pu 0 31 (bl 12 1) ?_
      refine pu 3 34 (bl 12 9) ?_
      refine pu 6 37 (bl 12 73) ?_
      refine tk 1 32 (bl 12 75) ?_ hHeld
      refine pu 2 33 (bl 12 79) ?_
      refine tk 4 35 (bl 12 95) ?_ hHeld
      refine join_ (σ := Value × Addr) 4 #[true, true, true, true, true, true, true, true, false, false, false, false] (fun s_ => [(36, s_.1), (38, .int .i64 t544)]) (fun s_ w' => (w'.cell? ⟨gb525, 0, none⟩ = some (.int .i64 a1_0) ∧ w'.cell? ⟨gb525, 1, none⟩ = some (.int .i64 a1_1) ∧ w'.cell? ⟨gb525, 2, none⟩ = some (.int .i64 a1_2) ∧ w'.cell? ⟨gb525, 3, none⟩ = some (.int .i64 a1_3) ∧ w'.cell? ⟨gb525, 4, none⟩ = some (.int .i64 a1_4) ∧ w'.cell? ⟨gb525, 5, none⟩ = some (.int .i64 a1_5)) ∧ (Kd.R (Kd.int .i64) 3 w' w.heap.size (fun _ => True) s_.1 y541) ∧ (∃ c_, (s_.1 : Value) = .slice (some s_.2) y541.length c_) ∧ (w'.heap[gb525]? = some (.cells #[.int .i64 a1_0, .int .i64 a1_1, .int .i64 a1_2, .int .i64 a1_3, .int .i64 a1_4, .int .i64 a1_5] 95 (0, 0))) ∧ (w'.heap[gb526]? = some (.cells #[.int .i64 0, .int .i64 0, .int .i64 0, .int .i64 0, .int .i64 0, .int .i64 0] 95 (0, 0))) ∧ (IsS127 w0 w' g s0_0 t545) ∧ (KeepBut w w' g none) ∧ (Below w0.heap.size w0 w')) ?_ ?_
      rotate_left
      ·intro hCont
       refine two_ (i := 5) (j := 7) (Ni := some 36) (Nj := some 38) #[true, true, true, true, true, true, true, false, false, false, false, false] #[true, true, true, true, true, false, true, true, false, false, false, false] rfl rfl rfl rfl (two_of HT_.out (by kernel_rfl)) (by decide) (by decide) (fun K hK => ?_) (fun K hK => ?_)
       ·skip
        refine Kd.R_lit_step (Kd.int .i64) _ 3 ?hg (N := 36) ?hd (xs := ([(-1), wrap64 (a1_3 + 1), a1_3] : List Int)) (inner := [.int .i64 (-1), .int .i64 (wrap64 (a1_3 + 1)), .int .i64 a1_3]) (ok := fun _ => True) (okp := fun _ => True) ?hr ?hp (fun _ hk => hk) trivial (Below.refl _ _) (Nat.le_refl _) (by simp) ?_; (case hd => rfl); (case hg => rfl); (case hr => first | (go_simp; done) | (go_simp; rfl)); (case hp => exact (Reps.one (show Kd.M (Kd.int .i64) _ _ _ (-1) [.int .i64 (-1)] from rfl) (Reps.one (show Kd.M (Kd.int .i64) _ _ _ (wrap64 (a1_3 + 1)) [.int .i64 (wrap64 (a1_3 + 1))] from rfl) (Reps.one (show Kd.M (Kd.int .i64) _ _ _ a1_3 [.int .i64 a1_3] from rfl) (Reps.none _ _)))))
        intro v542 w44 ho45 hb hg_ hnew_
        clear hg_ hnew_
        (first | rw [← Ny541.out] at ho45 | (simp only [Int.reduceToNat] at ho45; rw [← Ny541.out] at ho45))
        have _ := ra (Kd.R_lower ho45 (keep_size (w := w) (g := g) (row := none) (qk _ _ _ HK)))
        have _ := ra (IsS127.below (qi HI0) hb)
        have _ := bb (bk BK525) hb
        have _ := bb (bk BK526) hb
        have _ := kt (qk _ _ _ HK) hb
        have _ := ra (below_step (qb HI0 HB) hb)
        clear HI0 BK525 BK526 HK HB
        rename_i HO543 HI0 BK525 BK526 HK HB
        clear hb ho45
        obtain ⟨Ao46, co46, eo46⟩ := Kd.R_slice HO543.out
        subst eo46
        obtain ⟨ado46, fo46, _⟩ := Kd.at_int (Kd.R_reads' HO543.out).2.2 0 (by decide) (by rw [Ny541.out]; simp)
        cases fo46
        refine hK.out _ _ ⟨(blk_cell BK525.out 0).trans rfl, (blk_cell BK525.out 1).trans rfl, (blk_cell BK525.out 2).trans rfl, (blk_cell BK525.out 3).trans rfl, (blk_cell BK525.out 4).trans rfl, (blk_cell BK525.out 5).trans rfl⟩ (fun hHeld => ?_)
        clear hK K
        refine nm 36 ?_
        refine oe 7 38 (bl 12 255) (fun K hK => ?_)
        refine gs Try.func87 #[.pointer (some ⟨g, 0, none⟩), .int .i64 3] ?_
        with_reducible refine (spec_l1Rd_pick.calls k g s0_0 t528 3 t544 t545 w0 _ ?side1 ?side2 A37.out).mono ?_
        (case side1 => exact qi HI0)
        (case side2 => exact qb HI0 HB)
        rintro e w47 ⟨rfl, hi, hb, hk⟩
        refine ⟨_, rfl, ?_⟩
        have _ := kv hk (bk BK525) NB525_0
        have _ := kv hk (bk BK526) NB526_0
        have _ := ra (Kd.R_mono (Kd.R_keep (IsS127.apart (show IsS127 w0 _ g s0_0 t528 from qi HI0) (rq HO543) (by decide)) hk (fun _ h => h.2)) (fun _ h => h.1))
        have _ := ku (qk _ _ _ HK) hk
        have _ := ra (hb)
        have _ := ra (hi)
        clear BK525 BK526 HO543 HK HB HI0
        rename_i BK525 BK526 HO543 HK HB HI0
        (try clear hb)
        (try clear hb2)
        (try clear hk)
        (try clear hi)
        refine hK.out _ _ ⟨(blk_cell BK525.out 0).trans rfl, (blk_cell BK525.out 1).trans rfl, (blk_cell BK525.out 2).trans rfl, (blk_cell BK525.out 3).trans rfl, (blk_cell BK525.out 4).trans rfl, (blk_cell BK525.out 5).trans rfl⟩ (fun hHeld => ?_)
        clear hK K
        refine nm 38 ?_
        exact norm_ (by simp only [putAll, Act.put, List.setIfInBounds_toArray, List.set_cons_zero, List.set_cons_succ]) (hCont (.slice (some ado46) y541.length co46, ado46) _ ⟨hHeld, (rq HO543), ⟨_, rfl⟩, (bk BK525), (bk BK526), (qi HI0), (qk _ _ _ HK), (qb HI0 HB)⟩)
       ·skip
        refine gs Try.func87 #[.pointer (some ⟨g, 0, none⟩), .int .i64 3] ?_
        with_reducible refine (spec_l1Rd_pick.calls k g s0_0 t528 3 t544 t545 w0 _ ?side1 ?side2 A37.out).mono ?_
        (case side1 => exact qi HI0)
        (case side2 => exact qb HI0 HB)
        rintro e w44 ⟨rfl, hi, hb, hk⟩
        refine ⟨_, rfl, ?_⟩
        have _ := kv hk (bk BK525) NB525_0
        have _ := kv hk (bk BK526) NB526_0
        have _ := ku (qk _ _ _ HK) hk
        have _ := ra (hb)
        have _ := ra (hi)
        clear BK525 BK526 HK HB HI0
        rename_i BK525 BK526 HK HB HI0
        (try clear hb)
        (try clear hb2)
        (try clear hk)
        (try clear hi)
        refine hK.out _ _ ⟨(blk_cell BK525.out 0).trans rfl, (blk_cell BK525.out 1).trans rfl, (blk_cell BK525.out 2).trans rfl, (blk_cell BK525.out 3).trans rfl, (blk_cell BK525.out 4).trans rfl, (blk_cell BK525.out 5).trans rfl⟩ (fun hHeld => ?_)
        clear hK K
        refine nm 38 ?_
        refine oe 5 36 (bl 12 255) (fun K hK => ?_)
        refine Kd.R_lit_step (Kd.int .i64) _ 3 ?hg (N := 36) ?hd (xs := ([(-1), wrap64 (a1_3 + 1), a1_3] : List Int)) (inner := [.int .i64 (-1), .int .i64 (wrap64 (a1_3 + 1)), .int .i64 a1_3]) (ok := fun _ => True) (okp := fun _ => True) ?hr ?hp (fun _ hk => hk) trivial (Below.refl _ _) (Nat.le_refl _) (by simp) ?_; (case hd => rfl); (case hg => rfl); (case hr => first | (go_simp; done) | (go_simp; rfl)); (case hp => exact (Reps.one (show Kd.M (Kd.int .i64) _ _ _ (-1) [.int .i64 (-1)] from rfl) (Reps.one (show Kd.M (Kd.int .i64) _ _ _ (wrap64 (a1_3 + 1)) [.int .i64 (wrap64 (a1_3 + 1))] from rfl) (Reps.one (show Kd.M (Kd.int .i64) _ _ _ a1_3 [.int .i64 a1_3] from rfl) (Reps.none _ _)))))
        intro v542 w45 ho46 hb hg_ hnew_
        clear hg_ hnew_
        (first | rw [← Ny541.out] at ho46 | (simp only [Int.reduceToNat] at ho46; rw [← Ny541.out] at ho46))
        have _ := ra (Kd.R_lower ho46 (keep_size (w := w) (g := g) (row := none) (qk _ _ _ HK)))
        have _ := ra (IsS127.below (qi HI0) hb)
        have _ := bb (bk BK525) hb
        have _ := bb (bk BK526) hb
        have _ := kt (qk _ _ _ HK) hb
        have _ := ra (below_step (qb HI0 HB) hb)
        clear HI0 BK525 BK526 HK HB
        rename_i HO543 HI0 BK525 BK526 HK HB
        clear hb ho46
        obtain ⟨Ao47, co47, eo47⟩ := Kd.R_slice HO543.out
        subst eo47
        obtain ⟨ado47, fo47, _⟩ := Kd.at_int (Kd.R_reads' HO543.out).2.2 0 (by decide) (by rw [Ny541.out]; simp)
        cases fo47
        refine hK.out _ _ ⟨(blk_cell BK525.out 0).trans rfl, (blk_cell BK525.out 1).trans rfl, (blk_cell BK525.out 2).trans rfl, (blk_cell BK525.out 3).trans rfl, (blk_cell BK525.out 4).trans rfl, (blk_cell BK525.out 5).trans rfl⟩ (fun hHeld => ?_)
        clear hK K
        refine nm 36 ?_
        exact norm_ (by simp only [putAll, Act.put, List.setIfInBounds_toArray, List.set_cons_zero, List.set_cons_succ]) (hCont (.slice (some ado47) y541.length co47, ado47) _ ⟨hHeld, (rq HO543), ⟨_, rfl⟩, (bk BK525), (bk BK526), (qi HI0), (qk _ _ _ HK), (qb HI0 HB)⟩)
      rintro ⟨v542, adz_v542⟩ w48 ⟨hS_, h0_, h1_, h2_, h3_, h4_, h5_, h6_⟩
      have _ : Aside0 (Kd.R (Kd.int .i64) 3 w48 w.heap.size (fun _ => True) v542 y541) := ⟨h0_⟩
      have _ : Aside0 (∃ c_, (v542 : Value) = .slice (some adz_v542) y541.length c_) := ⟨h1_⟩
      have _ : Aside0 (w48.heap[gb525]? = some (.cells #[.int .i64 a1_0, .int .i64 a1_1, .int .i64 a1_2, .int .i64 a1_3, .int .i64 a1_4, .int .i64 a1_5] 95 (0, 0))) := ⟨h2_⟩
      have _ : Aside0 (w48.heap[gb526]? = some (.cells #[.int .i64 0, .int .i64 0, .int .i64 0, .int .i64 0, .int .i64 0, .int .i64 0] 95 (0, 0))) := ⟨h3_⟩
      have _ : Aside0 (IsS127 w0 w48 g s0_0 t545) := ⟨h4_⟩
      have _ : Aside0 (KeepBut w w48 g none) := ⟨h5_⟩
      have _ : Aside0 (Below w0.heap.size w0 w48) := ⟨h6_⟩
      clear BK525 BK526 HI0 HK HB
      clear h0_ h1_ h2_ h3_ h4_ h5_ h6_
      rename_i HO543 HA_HO543 BK525 BK526 HI0 HK HB
      have hHeld : w48.cell? ⟨gb525, 0, none⟩ = some (.int .i64 a1_0) ∧ w48.cell? ⟨gb525, 1, none⟩ = some (.int .i64 a1_1) ∧ w48.cell? ⟨gb525, 2, none⟩ = some (.int .i64 a1_2) ∧ w48.cell? ⟨gb525, 3, none⟩ = some (.int .i64 a1_3) ∧ w48.cell? ⟨gb525, 4, none⟩ = some (.int .i64 a1_4) ∧ w48.cell? ⟨gb525, 5, none⟩ = some (.int .i64 a1_5) := hS_
      obtain ⟨co49, eo49⟩ := HA_HO543.out
      clear HA_HO543
      subst eo49
      refine norm_ (a' := ?_) ?_ ?_
      rotate_left
      ·simp only [putAll, Act.put, List.setIfInBounds_toArray, List.set_cons_zero, List.set_cons_succ]
       rfl
      refine pu 8 39 (bl 12 511) ?_
      refine oe 9 40 (bl 12 1023) (fun K hK => ?_)
      (have p546 : 0 ≤ (t544 : Int) := od; have q546 : t544 < (y541.length : Int) := od; obtain ⟨ad546, e546, hx546_0⟩ := Kd.at_int (Kd.R_reads' HO543.out).2.2 t544 p546 q546; obtain rfl : adz_v542 = ad546 := (by injection e546))
      refine value_ (w1 := ?_) (v := ?_) (by rfl) rfl ?_ ?_
      rotate_left 2
      ·go_simp
       constructor
       ·rfl
       ·rfl
      clear hx546_0
      refine hK.out _ _ ⟨(blk_cell BK525.out 0).trans rfl, (blk_cell BK525.out 1).trans rfl, (blk_cell BK525.out 2).trans rfl, (blk_cell BK525.out 3).trans rfl, (blk_cell BK525.out 4).trans rfl, (blk_cell BK525.out 5).trans rfl⟩ (fun hHeld => ?_)
      clear hK K
      refine nm 40 ?_
      refine pu 10 41 (bl 12 2047) ?_
      refine last_ (i := 11) (N := none) #[true, true, true, true, true, true, true, true, true, true, true, true] rfl rfl (one_of HT_.out (by kernel_rfl)) (by decide) (fun K hK => ?_)
      have hs50 : w48.cell? ⟨gb525, 2, none⟩ = some (.int .i64 a1_2) := (blk_cell BK525.out 2).trans rfl
      have hfs50 := blk_frozen BK525.out 2
      have hns50_1 := NB526_525.out
      have hms50_1 := NB525_526.out
      refine skip_ (w1 := ?_) (by rfl) rfl ?_ ?_
      rotate_left
      ·go_simp
       rfl
      refine hK.out _ _ ?_
      clear hK K
      refine done_ (done_of HT_.out (by kernel_rfl)) ?_
      have hnb51 := NB525_526.out
      have hnc51 := NB526_525.out
      have hnb52 := NB525_0.out
      have hnc52 := NB0_525.out
      obtain ⟨hcz53_0, hcz53_1, hcz53_2, hcz53_3, hcz53_4, hcz53_5, hfz53_0, hfz53_1, hfz53_2, hfz53_3, hfz53_4, hfz53_5⟩ := zc6 BK525
      have hnb54 := NB526_0.out
      have hnc54 := NB0_526.out
      obtain ⟨hcz55_0, hcz55_1, hcz55_2, hcz55_3, hcz55_4, hcz55_5, hfz55_0, hfz55_1, hfz55_2, hfz55_3, hfz55_4, hfz55_5⟩ := zc6 BK526
      try go_wp2
      refine bodyPost_ret (results_cell_row rfl _ _ gb526 95 #[.int .i64 a1_0, .int .i64 a1_1, .int .i64 (rd y541 t544), .int .i64 a1_3, .int .i64 a1_4, .int .i64 a1_5] (0, 0) _ rfl (bp BK526) Try.underlying95 rfl (by kernel_rfl)) rfl ?_
      exact ⟨re, by exact qi HI0, by exact qb HI0 HB, by exact qk _ _ _ HK⟩
     ·rw [if_neg c39] at H
      exact absurd H (by simp)
    ·rw [if_neg c38] at H
     exact absurd H (by simp)
   ·rw [if_neg c36] at H
    have c36b0 : (t527 == 2) = false := beq_eq_false_iff_ne.mpr c36
    have c36b1 : (t527 != 2) = true := bne_iff_ne.mpr c36
    by_cases c56 : t527 = 3
    ·rw [if_pos c56] at H
     have c56b0 : (t527 == 3) = true := beq_iff_eq.mpr c56
     have c56b1 : (t527 != 3) = false := bne_eq_false_iff_eq.mpr c56
     clear c56
     obtain ⟨y547, hy_⟩ : ∃ y_ : List Int, y_ = (([6, 7] : List Int)) := ⟨_, rfl⟩
     replace H : ((spec_l1Rd_pick.f k s0_0 t528 2).bind fun bt550 => (if 0 ≤ bt550.1 then (if bt550.1 < (y547.length : Int) then (some (a1_0, a1_1, a1_2, rd y547 bt550.1, a1_4, a1_5, bt550.2)) else (none)) else (none))) = some (r1, r2, r3, r4, r5, r6, r7) := yh
     have Ny547 := ra hy_
     clear hy_
     obtain ⟨⟨t550, t551⟩, A57, H⟩ := bo H
     try dsimp only at H
     by_cases c58 : 0 ≤ t550
     ·rw [if_pos c58] at H
      have c58b0 : decide (0 ≤ t550) = true := decide_eq_true c58
      clear c58
      by_cases c59 : t550 < (y547.length : Int)
      ·rw [if_pos c59] at H
       have c59b0 : decide (t550 < (y547.length : Int)) = true := decide_eq_true c59
       clear c59
       simp only [Option.some.injEq, Prod.mk.injEq] at H
       obtain ⟨rfl, rfl, rfl, rfl, rfl, rfl, rfl⟩ := H
       go_enter Try.func111, Try.ntmps111
       go_wp2_with (first | ((with_reducible refine gate_dst (N := 3) rfl ?_); refine be 3 #[.int .i64 a1_0, .int .i64 a1_1, .int .i64 a1_2, .int .i64 a1_3, .int .i64 a1_4, .int .i64 a1_5] 95 ?_; intro gb525 hg w60 hbox hb; have _ := ra (IsS127.below (qi HI0) hb); have _ := kt (qk _ _ _ HK) hb; have _ := ra (below_step (qb HI0 HB) hb); have _ := ra (hbox); have _ := ns hg (qk w _ g HK); have _ := nt hg HW0 (qk w _ g HK); have _ := nl hg (qi HI0); have _ := nr hg (qi HI0); clear HI0 HK HB; rename_i HI0 HK HB BK525 GW525 GE525 NB0_525 NB525_0; clear hb hbox hg) | ((with_reducible refine gate_dst (N := 4) rfl ?_); refine be 4 #[.int .i64 0, .int .i64 0, .int .i64 0, .int .i64 0, .int .i64 0, .int .i64 0] 95 ?_; intro gb526 hg w61 hbox hb; have _ := ra (IsS127.below (qi HI0) hb); have _ := bb (bk BK525) hb; have _ := kt (qk _ _ _ HK) hb; have _ := ra (below_step (qb HI0 HB) hb); have _ := ra (hbox); have _ := ns hg (qk w _ g HK); have _ := nt hg HW0 (qk w _ g HK); have _ := bn hg (bk BK525); have _ := bm hg (bk BK525); have _ := nl hg (qi HI0); have _ := nr hg (qi HI0); clear HI0 BK525 HK HB; rename_i HI0 BK525 HK HB BK526 GW526 GE526 NB525_526 NB526_525 NB0_526 NB526_0; clear hb hbox hg) | ((with_reducible refine gate_callee (f := 87) rfl ?_); refine gl (some 6) Try.func87 #[.pointer (some ⟨g, 0, none⟩), .int .i64 6] ?_; (with_reducible refine (spec_l1Rd_pick.calls k g s0_0 s0_1 6 t527 t528 w0 _ ?side1 ?side2 A3.out).mono ?_); (case side1 => exact qi HI0); (case side2 => exact qb HI0 HB); rintro e w62 ⟨rfl, hi, hb, hk⟩; refine ⟨_, rfl, ?_⟩; have _ := kv hk (bk BK525) NB525_0; have _ := kv hk (bk BK526) NB526_0; have _ := ku (qk _ _ _ HK) hk; have _ := ra (hb); have _ := ra (hi); clear BK525 BK526 HK HB HI0; rename_i BK525 BK526 HK HB HI0; (try clear hb); (try clear hb2); (try clear hk); (try clear hi)) | ((with_reducible refine gate_dst (N := 44) rfl ?_); refine Kd.R_lit (Kd.int .i64) _ 3 ?hg (N := 44) ?hd (xs := ([6, 7] : List Int)) (inner := [.int .i64 6, .int .i64 7]) (ok := fun _ => True) (okp := fun _ => True) ?hr ?hp (fun _ hk => hk) trivial (Below.refl _ _) (Nat.le_refl _) (by simp) ?_; (case hd => rfl); (case hg => rfl); (case hr => first | (go_simp; done) | (go_simp; rfl)); (case hp => exact (Reps.one (show Kd.M (Kd.int .i64) _ _ _ 6 [.int .i64 6] from rfl) (Reps.one (show Kd.M (Kd.int .i64) _ _ _ 7 [.int .i64 7] from rfl) (Reps.none _ _)))); intro v548 w63 ho64 hb hg_ hnew_; clear hg_ hnew_; (first | rw [← Ny547.out] at ho64 | (simp only [Int.reduceToNat] at ho64; rw [← Ny547.out] at ho64)); have _ := ra (Kd.R_lower ho64 (keep_size (w := w) (g := g) (row := none) (qk _ _ _ HK))); have _ := ra (IsS127.below (qi HI0) hb); have _ := bb (bk BK525) hb; have _ := bb (bk BK526) hb; have _ := kt (qk _ _ _ HK) hb; have _ := ra (below_step (qb HI0 HB) hb); clear HI0 BK525 BK526 HK HB; rename_i HO549 HI0 BK525 BK526 HK HB; clear hb ho64) | ((with_reducible refine gate_callee (f := 87) rfl ?_); refine gl (some 46) Try.func87 #[.pointer (some ⟨g, 0, none⟩), .int .i64 2] ?_; (with_reducible refine (spec_l1Rd_pick.calls k g s0_0 t528 2 t550 t551 w0 _ ?side1 ?side2 A57.out).mono ?_); (case side1 => exact qi HI0); (case side2 => exact qb HI0 HB); rintro e w65 ⟨rfl, hi, hb, hk⟩; refine ⟨_, rfl, ?_⟩; have _ := kv hk (bk BK525) NB525_0; have _ := kv hk (bk BK526) NB526_0; have _ := ra (Kd.R_mono (Kd.R_keep (IsS127.apart (show IsS127 w0 _ g s0_0 t528 from qi HI0) (rq HO549) (by decide)) hk (fun _ h => h.2)) (fun _ h => h.1)); have _ := ku (qk _ _ _ HK) hk; have _ := ra (hb); have _ := ra (hi); clear BK525 BK526 HO549 HK HB HI0; rename_i BK525 BK526 HO549 HK HB HI0; (try clear hb); (try clear hb2); (try clear hk); (try clear hi); obtain ⟨Ao66, co66, eo66⟩ := Kd.R_slice HO549.out; subst eo66; have p552 : 0 ≤ (t550 : Int) := od; have q552 : t550 < (y547.length : Int) := od; obtain ⟨ad552, e552, hx552_0⟩ := Kd.at_int (Kd.R_reads' HO549.out).2.2 t550 p552 q552; cases e552; replace p552 := eq_true p552; replace q552 := eq_true q552; have hnb67 := NB525_526.out; have hnc67 := NB526_525.out; have hnb68 := NB525_0.out; have hnc68 := NB0_525.out; obtain ⟨hcz69_0, hcz69_1, hcz69_2, hcz69_3, hcz69_4, hcz69_5, hfz69_0, hfz69_1, hfz69_2, hfz69_3, hfz69_4, hfz69_5⟩ := zc6 BK525; have hnb70 := NB526_0.out; have hnc70 := NB0_526.out; obtain ⟨hcz71_0, hcz71_1, hcz71_2, hcz71_3, hcz71_4, hcz71_5, hfz71_0, hfz71_1, hfz71_2, hfz71_3, hfz71_4, hfz71_5⟩ := zc6 BK526))
       refine bodyPost_ret (results_cell_row rfl _ _ gb526 95 #[.int .i64 a1_0, .int .i64 a1_1, .int .i64 a1_2, .int .i64 (rd y547 t550), .int .i64 a1_4, .int .i64 a1_5] (0, 0) _ rfl (bp BK526) Try.underlying95 rfl (by kernel_rfl)) rfl ?_
       exact ⟨re, by exact qi HI0, by exact qb HI0 HB, by exact qk _ _ _ HK⟩
      ·rw [if_neg c59] at H
       exact absurd H (by simp)
     ·rw [if_neg c58] at H
      exact absurd H (by simp)
    ·rw [if_neg c56] at H
     have c56b0 : (t527 == 3) = false := beq_eq_false_iff_ne.mpr c56
     have c56b1 : (t527 != 3) = true := bne_iff_ne.mpr c56
     by_cases c72 : t527 = 4
     ·rw [if_pos c72] at H
      have c72b0 : (t527 == 4) = true := beq_iff_eq.mpr c72
      have c72b1 : (t527 != 4) = false := bne_eq_false_iff_eq.mpr c72
      clear c72
      obtain ⟨y553, hy_⟩ : ∃ y_ : List Int, y_ = (([(-1), a1_5, wrap64 (a1_5 + 1)] : List Int)) := ⟨_, rfl⟩
      replace H : ((spec_l1Rd_pick.f k s0_0 t528 3).bind fun bt556 => (if 0 ≤ bt556.1 then (if bt556.1 < (y553.length : Int) then (some (a1_0, a1_1, a1_2, a1_3, rd y553 bt556.1, a1_5, bt556.2)) else (none)) else (none))) = some (r1, r2, r3, r4, r5, r6, r7) := yh
      have Ny553 := ra hy_
      clear hy_
      obtain ⟨⟨t556, t557⟩, A73, H⟩ := bo H
      try dsimp only at H
      by_cases c74 : 0 ≤ t556
      ·rw [if_pos c74] at H
       have c74b0 : decide (0 ≤ t556) = true := decide_eq_true c74
       clear c74
       by_cases c75 : t556 < (y553.length : Int)
       ·rw [if_pos c75] at H
        have c75b0 : decide (t556 < (y553.length : Int)) = true := decide_eq_true c75
        clear c75
        simp only [Option.some.injEq, Prod.mk.injEq] at H
        obtain ⟨rfl, rfl, rfl, rfl, rfl, rfl, rfl⟩ := H
        go_enter Try.func111, Try.ntmps111
        try go_wp2_with (first | ((with_reducible refine gate_dst (N := 3) rfl ?_); refine be 3 #[.int .i64 a1_0, .int .i64 a1_1, .int .i64 a1_2, .int .i64 a1_3, .int .i64 a1_4, .int .i64 a1_5] 95 ?_; intro gb525 hg w76 hbox hb; have _ := ra (IsS127.below (qi HI0) hb); have _ := kt (qk _ _ _ HK) hb; have _ := ra (below_step (qb HI0 HB) hb); have _ := ra (hbox); have _ := ns hg (qk w _ g HK); have _ := nt hg HW0 (qk w _ g HK); have _ := nl hg (qi HI0); have _ := nr hg (qi HI0); clear HI0 HK HB; rename_i HI0 HK HB BK525 GW525 GE525 NB0_525 NB525_0; clear hb hbox hg) | ((with_reducible refine gate_dst (N := 4) rfl ?_); refine be 4 #[.int .i64 0, .int .i64 0, .int .i64 0, .int .i64 0, .int .i64 0, .int .i64 0] 95 ?_; intro gb526 hg w77 hbox hb; have _ := ra (IsS127.below (qi HI0) hb); have _ := bb (bk BK525) hb; have _ := kt (qk _ _ _ HK) hb; have _ := ra (below_step (qb HI0 HB) hb); have _ := ra (hbox); have _ := ns hg (qk w _ g HK); have _ := nt hg HW0 (qk w _ g HK); have _ := bn hg (bk BK525); have _ := bm hg (bk BK525); have _ := nl hg (qi HI0); have _ := nr hg (qi HI0); clear HI0 BK525 HK HB; rename_i HI0 BK525 HK HB BK526 GW526 GE526 NB525_526 NB526_525 NB0_526 NB526_0; clear hb hbox hg) | ((with_reducible refine gate_callee (f := 87) rfl ?_); refine gl (some 6) Try.func87 #[.pointer (some ⟨g, 0, none⟩), .int .i64 6] ?_; (with_reducible refine (spec_l1Rd_pick.calls k g s0_0 s0_1 6 t527 t528 w0 _ ?side1 ?side2 A3.out).mono ?_); (case side1 => exact qi HI0); (case side2 => exact qb HI0 HB); rintro e w78 ⟨rfl, hi, hb, hk⟩; refine ⟨_, rfl, ?_⟩; have _ := kv hk (bk BK525) NB525_0; have _ := kv hk (bk BK526) NB526_0; have _ := ku (qk _ _ _ HK) hk; have _ := ra (hb); have _ := ra (hi); clear BK525 BK526 HK HB HI0; rename_i BK525 BK526 HK HB HI0; (try clear hb); (try clear hb2); (try clear hk); (try clear hi)))
        have pi558 : (0 ≤ (t556 : Int)) = True := eq_true (od)
        have qi558 : (t556 < (y553.length : Int)) = True := eq_true (od)
        have _ := ra (blk_drew BK525.out)
        have _ := ra (blk_drew BK526.out)
        have _ := ra (IsS127.drew HI0.out)
        have _ := ra (keep_drew HK.out)
        have _ := ra (below_drew1 HB.out)
        clear BK525 BK526 HI0 HK HB
        rename_i BK525 BK526 HI0 HK HB
        refine start_ (n := 12) (S := fun w' => w'.cell? ⟨gb525, 0, none⟩ = some (.int .i64 a1_0) ∧ w'.cell? ⟨gb525, 1, none⟩ = some (.int .i64 a1_1) ∧ w'.cell? ⟨gb525, 2, none⟩ = some (.int .i64 a1_2) ∧ w'.cell? ⟨gb525, 3, none⟩ = some (.int .i64 a1_3) ∧ w'.cell? ⟨gb525, 4, none⟩ = some (.int .i64 a1_4) ∧ w'.cell? ⟨gb525, 5, none⟩ = some (.int .i64 a1_5)) (ds := [11]) #[false, false, false, false, false, false, false, false, false, false, false, false] (by kernel_rfl) rfl rfl ⟨(blk_cell BK525.out 0).trans rfl, (blk_cell BK525.out 1).trans rfl, (blk_cell BK525.out 2).trans rfl, (blk_cell BK525.out 3).trans rfl, (blk_cell BK525.out 4).trans rfl, (blk_cell BK525.out 5).trans rfl⟩ (fun hHeld => ?_); refine with_tabW spec_l1SpoilBox.tab12 spec_l1SpoilBox.bits12 (fun HT_ HW_ => ?_)
        generalize w78.drew = w79 at BK525 BK526 HI0 HK HB hHeld ⊢
        refine pu 0 52 (bl 12 1) ?_
        refine pu 2 54 (bl 12 5) ?_
        refine pu 6 58 (bl 12 69) ?_
        refine tk 1 53 (bl 12 71) ?_ hHeld
        refine tk 3 55 (bl 12 79) ?_ hHeld
        refine pu 4 56 (bl 12 95) ?_
        refine join_ (σ := Value × Addr) 4 #[true, true, true, true, true, true, true, true, false, false, false, false] (fun s_ => [(57, s_.1), (59, .int .i64 t556)]) (fun s_ w' => (w'.cell? ⟨gb525, 0, none⟩ = some (.int .i64 a1_0) ∧ w'.cell? ⟨gb525, 1, none⟩ = some (.int .i64 a1_1) ∧ w'.cell? ⟨gb525, 2, none⟩ = some (.int .i64 a1_2) ∧ w'.cell? ⟨gb525, 3, none⟩ = some (.int .i64 a1_3) ∧ w'.cell? ⟨gb525, 4, none⟩ = some (.int .i64 a1_4) ∧ w'.cell? ⟨gb525, 5, none⟩ = some (.int .i64 a1_5)) ∧ (Kd.R (Kd.int .i64) 3 w' w.heap.size (fun _ => True) s_.1 y553) ∧ (∃ c_, (s_.1 : Value) = .slice (some s_.2) y553.length c_) ∧ (w'.heap[gb525]? = some (.cells #[.int .i64 a1_0, .int .i64 a1_1, .int .i64 a1_2, .int .i64 a1_3, .int .i64 a1_4, .int .i64 a1_5] 95 (0, 0))) ∧ (w'.heap[gb526]? = some (.cells #[.int .i64 0, .int .i64 0, .int .i64 0, .int .i64 0, .int .i64 0, .int .i64 0] 95 (0, 0))) ∧ (IsS127 w0 w' g s0_0 t557) ∧ (KeepBut w w' g none) ∧ (Below w0.heap.size w0 w')) ?_ ?_
        rotate_left
        ·intro hCont
         refine two_ (i := 5) (j := 7) (Ni := some 57) (Nj := some 59) #[true, true, true, true, true, true, true, false, false, false, false, false] #[true, true, true, true, true, false, true, true, false, false, false, false] rfl rfl rfl rfl (two_of HT_.out (by kernel_rfl)) (by decide) (by decide) (fun K hK => ?_) (fun K hK => ?_)
         ·skip
          refine Kd.R_lit_step (Kd.int .i64) _ 3 ?hg (N := 57) ?hd (xs := ([(-1), a1_5, wrap64 (a1_5 + 1)] : List Int)) (inner := [.int .i64 (-1), .int .i64 a1_5, .int .i64 (wrap64 (a1_5 + 1))]) (ok := fun _ => True) (okp := fun _ => True) ?hr ?hp (fun _ hk => hk) trivial (Below.refl _ _) (Nat.le_refl _) (by simp) ?_; (case hd => rfl); (case hg => rfl); (case hr => first | (go_simp; done) | (go_simp; rfl)); (case hp => exact (Reps.one (show Kd.M (Kd.int .i64) _ _ _ (-1) [.int .i64 (-1)] from rfl) (Reps.one (show Kd.M (Kd.int .i64) _ _ _ a1_5 [.int .i64 a1_5] from rfl) (Reps.one (show Kd.M (Kd.int .i64) _ _ _ (wrap64 (a1_5 + 1)) [.int .i64 (wrap64 (a1_5 + 1))] from rfl) (Reps.none _ _)))))
          intro v554 w80 ho81 hb hg_ hnew_
          clear hg_ hnew_
          (first | rw [← Ny553.out] at ho81 | (simp only [Int.reduceToNat] at ho81; rw [← Ny553.out] at ho81))
          have _ := ra (Kd.R_lower ho81 (keep_size (w := w) (g := g) (row := none) (qk _ _ _ HK)))
          have _ := ra (IsS127.below (qi HI0) hb)
          have _ := bb (bk BK525) hb
          have _ := bb (bk BK526) hb
          have _ := kt (qk _ _ _ HK) hb
          have _ := ra (below_step (qb HI0 HB) hb)
          clear HI0 BK525 BK526 HK HB
          rename_i HO555 HI0 BK525 BK526 HK HB
          clear hb ho81
          obtain ⟨Ao82, co82, eo82⟩ := Kd.R_slice HO555.out
          subst eo82
          obtain ⟨ado82, fo82, _⟩ := Kd.at_int (Kd.R_reads' HO555.out).2.2 0 (by decide) (by rw [Ny553.out]; simp)
          cases fo82
          refine hK.out _ _ ⟨(blk_cell BK525.out 0).trans rfl, (blk_cell BK525.out 1).trans rfl, (blk_cell BK525.out 2).trans rfl, (blk_cell BK525.out 3).trans rfl, (blk_cell BK525.out 4).trans rfl, (blk_cell BK525.out 5).trans rfl⟩ (fun hHeld => ?_)
          clear hK K
          refine nm 57 ?_
          refine oe 7 59 (bl 12 255) (fun K hK => ?_)
          refine gs Try.func87 #[.pointer (some ⟨g, 0, none⟩), .int .i64 3] ?_
          with_reducible refine (spec_l1Rd_pick.calls k g s0_0 t528 3 t556 t557 w0 _ ?side1 ?side2 A73.out).mono ?_
          (case side1 => exact qi HI0)
          (case side2 => exact qb HI0 HB)
          rintro e w83 ⟨rfl, hi, hb, hk⟩
          refine ⟨_, rfl, ?_⟩
          have _ := kv hk (bk BK525) NB525_0
          have _ := kv hk (bk BK526) NB526_0
          have _ := ra (Kd.R_mono (Kd.R_keep (IsS127.apart (show IsS127 w0 _ g s0_0 t528 from qi HI0) (rq HO555) (by decide)) hk (fun _ h => h.2)) (fun _ h => h.1))
          have _ := ku (qk _ _ _ HK) hk
          have _ := ra (hb)
          have _ := ra (hi)
          clear BK525 BK526 HO555 HK HB HI0
          rename_i BK525 BK526 HO555 HK HB HI0
          (try clear hb)
          (try clear hb2)
          (try clear hk)
          (try clear hi)
          refine hK.out _ _ ⟨(blk_cell BK525.out 0).trans rfl, (blk_cell BK525.out 1).trans rfl, (blk_cell BK525.out 2).trans rfl, (blk_cell BK525.out 3).trans rfl, (blk_cell BK525.out 4).trans rfl, (blk_cell BK525.out 5).trans rfl⟩ (fun hHeld => ?_)
          clear hK K
          refine nm 59 ?_
          exact norm_ (by simp only [putAll, Act.put, List.setIfInBounds_toArray, List.set_cons_zero, List.set_cons_succ]) (hCont (.slice (some ado82) y553.length co82, ado82) _ ⟨hHeld, (rq HO555), ⟨_, rfl⟩, (bk BK525), (bk BK526), (qi HI0), (qk _ _ _ HK), (qb HI0 HB)⟩)
         ·skip
          refine gs Try.func87 #[.pointer (some ⟨g, 0, none⟩), .int .i64 3] ?_
          with_reducible refine (spec_l1Rd_pick.calls k g s0_0 t528 3 t556 t557 w0 _ ?side1 ?side2 A73.out).mono ?_
          (case side1 => exact qi HI0)
          (case side2 => exact qb HI0 HB)
          rintro e w80 ⟨rfl, hi, hb, hk⟩
          refine ⟨_, rfl, ?_⟩
          have _ := kv hk (bk BK525) NB525_0
          have _ := kv hk (bk BK526) NB526_0
          have _ := ku (qk _ _ _ HK) hk
          have _ := ra (hb)
          have _ := ra (hi)
          clear BK525 BK526 HK HB HI0
          rename_i BK525 BK526 HK HB HI0
          (try clear hb)
          (try clear hb2)
          (try clear hk)
          (try clear hi)
          refine hK.out _ _ ⟨(blk_cell BK525.out 0).trans rfl, (blk_cell BK525.out 1).trans rfl, (blk_cell BK525.out 2).trans rfl, (blk_cell BK525.out 3).trans rfl, (blk_cell BK525.out 4).trans rfl, (blk_cell BK525.out 5).trans rfl⟩ (fun hHeld => ?_)
          clear hK K
          refine nm 59 ?_
          refine oe 5 57 (bl 12 255) (fun K hK => ?_)
          refine Kd.R_lit_step (Kd.int .i64) _ 3 ?hg (N := 57) ?hd (xs := ([(-1), a1_5, wrap64 (a1_5 + 1)] : List Int)) (inner := [.int .i64 (-1), .int .i64 a1_5, .int .i64 (wrap64 (a1_5 + 1))]) (ok := fun _ => True) (okp := fun _ => True) ?hr ?hp (fun _ hk => hk) trivial (Below.refl _ _) (Nat.le_refl _) (by simp) ?_; (case hd => rfl); (case hg => rfl); (case hr => first | (go_simp; done) | (go_simp; rfl)); (case hp => exact (Reps.one (show Kd.M (Kd.int .i64) _ _ _ (-1) [.int .i64 (-1)] from rfl) (Reps.one (show Kd.M (Kd.int .i64) _ _ _ a1_5 [.int .i64 a1_5] from rfl) (Reps.one (show Kd.M (Kd.int .i64) _ _ _ (wrap64 (a1_5 + 1)) [.int .i64 (wrap64 (a1_5 + 1))] from rfl) (Reps.none _ _)))))
          intro v554 w81 ho82 hb hg_ hnew_
          clear hg_ hnew_
          (first | rw [← Ny553.out] at ho82 | (simp only [Int.reduceToNat] at ho82; rw [← Ny553.out] at ho82))
          have _ := ra (Kd.R_lower ho82 (keep_size (w := w) (g := g) (row := none) (qk _ _ _ HK)))
          have _ := ra (IsS127.below (qi HI0) hb)
          have _ := bb (bk BK525) hb
          have _ := bb (bk BK526) hb
          have _ := kt (qk _ _ _ HK) hb
          have _ := ra (below_step (qb HI0 HB) hb)
          clear HI0 BK525 BK526 HK HB
          rename_i HO555 HI0 BK525 BK526 HK HB
          clear hb ho82
          obtain ⟨Ao83, co83, eo83⟩ := Kd.R_slice HO555.out
          subst eo83
          obtain ⟨ado83, fo83, _⟩ := Kd.at_int (Kd.R_reads' HO555.out).2.2 0 (by decide) (by rw [Ny553.out]; simp)
          cases fo83
          refine hK.out _ _ ⟨(blk_cell BK525.out 0).trans rfl, (blk_cell BK525.out 1).trans rfl, (blk_cell BK525.out 2).trans rfl, (blk_cell BK525.out 3).trans rfl, (blk_cell BK525.out 4).trans rfl, (blk_cell BK525.out 5).trans rfl⟩ (fun hHeld => ?_)
          clear hK K
          refine nm 57 ?_
          exact norm_ (by simp only [putAll, Act.put, List.setIfInBounds_toArray, List.set_cons_zero, List.set_cons_succ]) (hCont (.slice (some ado83) y553.length co83, ado83) _ ⟨hHeld, (rq HO555), ⟨_, rfl⟩, (bk BK525), (bk BK526), (qi HI0), (qk _ _ _ HK), (qb HI0 HB)⟩)
        rintro ⟨v554, adz_v554⟩ w84 ⟨hS_, h0_, h1_, h2_, h3_, h4_, h5_, h6_⟩
        have _ : Aside0 (Kd.R (Kd.int .i64) 3 w84 w.heap.size (fun _ => True) v554 y553) := ⟨h0_⟩
        have _ : Aside0 (∃ c_, (v554 : Value) = .slice (some adz_v554) y553.length c_) := ⟨h1_⟩
        have _ : Aside0 (w84.heap[gb525]? = some (.cells #[.int .i64 a1_0, .int .i64 a1_1, .int .i64 a1_2, .int .i64 a1_3, .int .i64 a1_4, .int .i64 a1_5] 95 (0, 0))) := ⟨h2_⟩
        have _ : Aside0 (w84.heap[gb526]? = some (.cells #[.int .i64 0, .int .i64 0, .int .i64 0, .int .i64 0, .int .i64 0, .int .i64 0] 95 (0, 0))) := ⟨h3_⟩
        have _ : Aside0 (IsS127 w0 w84 g s0_0 t557) := ⟨h4_⟩
        have _ : Aside0 (KeepBut w w84 g none) := ⟨h5_⟩
        have _ : Aside0 (Below w0.heap.size w0 w84) := ⟨h6_⟩
        clear BK525 BK526 HI0 HK HB
        clear h0_ h1_ h2_ h3_ h4_ h5_ h6_
        rename_i HO555 HA_HO555 BK525 BK526 HI0 HK HB
        have hHeld : w84.cell? ⟨gb525, 0, none⟩ = some (.int .i64 a1_0) ∧ w84.cell? ⟨gb525, 1, none⟩ = some (.int .i64 a1_1) ∧ w84.cell? ⟨gb525, 2, none⟩ = some (.int .i64 a1_2) ∧ w84.cell? ⟨gb525, 3, none⟩ = some (.int .i64 a1_3) ∧ w84.cell? ⟨gb525, 4, none⟩ = some (.int .i64 a1_4) ∧ w84.cell? ⟨gb525, 5, none⟩ = some (.int .i64 a1_5) := hS_
        obtain ⟨co85, eo85⟩ := HA_HO555.out
        clear HA_HO555
        subst eo85
        refine norm_ (a' := ?_) ?_ ?_
        rotate_left
        ·simp only [putAll, Act.put, List.setIfInBounds_toArray, List.set_cons_zero, List.set_cons_succ]
         rfl
        refine pu 8 60 (bl 12 511) ?_
        refine oe 9 61 (bl 12 1023) (fun K hK => ?_)
        (have p558 : 0 ≤ (t556 : Int) := od; have q558 : t556 < (y553.length : Int) := od; obtain ⟨ad558, e558, hx558_0⟩ := Kd.at_int (Kd.R_reads' HO555.out).2.2 t556 p558 q558; obtain rfl : adz_v554 = ad558 := (by injection e558))
        refine value_ (w1 := ?_) (v := ?_) (by rfl) rfl ?_ ?_
        rotate_left 2
        ·go_simp
         constructor
         ·rfl
         ·rfl
        clear hx558_0
        refine hK.out _ _ ⟨(blk_cell BK525.out 0).trans rfl, (blk_cell BK525.out 1).trans rfl, (blk_cell BK525.out 2).trans rfl, (blk_cell BK525.out 3).trans rfl, (blk_cell BK525.out 4).trans rfl, (blk_cell BK525.out 5).trans rfl⟩ (fun hHeld => ?_)
        clear hK K
        refine nm 61 ?_
        refine pu 10 62 (bl 12 2047) ?_
        refine last_ (i := 11) (N := none) #[true, true, true, true, true, true, true, true, true, true, true, true] rfl rfl (one_of HT_.out (by kernel_rfl)) (by decide) (fun K hK => ?_)
        have hs86 : w84.cell? ⟨gb525, 4, none⟩ = some (.int .i64 a1_4) := (blk_cell BK525.out 4).trans rfl
        have hfs86 := blk_frozen BK525.out 4
        have hns86_1 := NB526_525.out
        have hms86_1 := NB525_526.out
        refine skip_ (w1 := ?_) (by rfl) rfl ?_ ?_
        rotate_left
        ·go_simp
         rfl
        refine hK.out _ _ ?_
        clear hK K
        refine done_ (done_of HT_.out (by kernel_rfl)) ?_
        have hnb87 := NB525_526.out
        have hnc87 := NB526_525.out
        have hnb88 := NB525_0.out
        have hnc88 := NB0_525.out
        obtain ⟨hcz89_0, hcz89_1, hcz89_2, hcz89_3, hcz89_4, hcz89_5, hfz89_0, hfz89_1, hfz89_2, hfz89_3, hfz89_4, hfz89_5⟩ := zc6 BK525
        have hnb90 := NB526_0.out
        have hnc90 := NB0_526.out
        obtain ⟨hcz91_0, hcz91_1, hcz91_2, hcz91_3, hcz91_4, hcz91_5, hfz91_0, hfz91_1, hfz91_2, hfz91_3, hfz91_4, hfz91_5⟩ := zc6 BK526
        try go_wp2
        refine bodyPost_ret (results_cell_row rfl _ _ gb526 95 #[.int .i64 a1_0, .int .i64 a1_1, .int .i64 a1_2, .int .i64 a1_3, .int .i64 (rd y553 t556), .int .i64 a1_5] (0, 0) _ rfl (bp BK526) Try.underlying95 rfl (by kernel_rfl)) rfl ?_
        exact ⟨re, by exact qi HI0, by exact qb HI0 HB, by exact qk _ _ _ HK⟩
       ·rw [if_neg c75] at H
        exact absurd H (by simp)
      ·rw [if_neg c74] at H
       exact absurd H (by simp)
     ·rw [if_neg c72] at H
      have c72b0 : (t527 == 4) = false := beq_eq_false_iff_ne.mpr c72
      have c72b1 : (t527 != 4) = true := bne_iff_ne.mpr c72
      obtain ⟨y559, hy_⟩ : ∃ y_ : List Int, y_ = (([10000, 10001] : List Int)) := ⟨_, rfl⟩
      replace H : ((spec_l1Rd_pick.f k s0_0 t528 2).bind fun bt562 => (if 0 ≤ bt562.1 then (if bt562.1 < (y559.length : Int) then (some (a1_0, a1_1, a1_2, a1_3, a1_4, rd y559 bt562.1, bt562.2)) else (none)) else (none))) = some (r1, r2, r3, r4, r5, r6, r7) := yh
      have Ny559 := ra hy_
      clear hy_
      obtain ⟨⟨t562, t563⟩, A92, H⟩ := bo H
      try dsimp only at H
      by_cases c93 : 0 ≤ t562
      ·rw [if_pos c93] at H
       have c93b0 : decide (0 ≤ t562) = true := decide_eq_true c93
       clear c93
       by_cases c94 : t562 < (y559.length : Int)
       ·rw [if_pos c94] at H
        have c94b0 : decide (t562 < (y559.length : Int)) = true := decide_eq_true c94
        clear c94
        simp only [Option.some.injEq, Prod.mk.injEq] at H
        obtain ⟨rfl, rfl, rfl, rfl, rfl, rfl, rfl⟩ := H
        go_enter Try.func111, Try.ntmps111
        go_wp2_with (first | ((with_reducible refine gate_dst (N := 3) rfl ?_); refine be 3 #[.int .i64 a1_0, .int .i64 a1_1, .int .i64 a1_2, .int .i64 a1_3, .int .i64 a1_4, .int .i64 a1_5] 95 ?_; intro gb525 hg w95 hbox hb; have _ := ra (IsS127.below (qi HI0) hb); have _ := kt (qk _ _ _ HK) hb; have _ := ra (below_step (qb HI0 HB) hb); have _ := ra (hbox); have _ := ns hg (qk w _ g HK); have _ := nt hg HW0 (qk w _ g HK); have _ := nl hg (qi HI0); have _ := nr hg (qi HI0); clear HI0 HK HB; rename_i HI0 HK HB BK525 GW525 GE525 NB0_525 NB525_0; clear hb hbox hg) | ((with_reducible refine gate_dst (N := 4) rfl ?_); refine be 4 #[.int .i64 0, .int .i64 0, .int .i64 0, .int .i64 0, .int .i64 0, .int .i64 0] 95 ?_; intro gb526 hg w96 hbox hb; have _ := ra (IsS127.below (qi HI0) hb); have _ := bb (bk BK525) hb; have _ := kt (qk _ _ _ HK) hb; have _ := ra (below_step (qb HI0 HB) hb); have _ := ra (hbox); have _ := ns hg (qk w _ g HK); have _ := nt hg HW0 (qk w _ g HK); have _ := bn hg (bk BK525); have _ := bm hg (bk BK525); have _ := nl hg (qi HI0); have _ := nr hg (qi HI0); clear HI0 BK525 HK HB; rename_i HI0 BK525 HK HB BK526 GW526 GE526 NB525_526 NB526_525 NB0_526 NB526_0; clear hb hbox hg) | ((with_reducible refine gate_callee (f := 87) rfl ?_); refine gl (some 6) Try.func87 #[.pointer (some ⟨g, 0, none⟩), .int .i64 6] ?_; (with_reducible refine (spec_l1Rd_pick.calls k g s0_0 s0_1 6 t527 t528 w0 _ ?side1 ?side2 A3.out).mono ?_); (case side1 => exact qi HI0); (case side2 => exact qb HI0 HB); rintro e w97 ⟨rfl, hi, hb, hk⟩; refine ⟨_, rfl, ?_⟩; have _ := kv hk (bk BK525) NB525_0; have _ := kv hk (bk BK526) NB526_0; have _ := ku (qk _ _ _ HK) hk; have _ := ra (hb); have _ := ra (hi); clear BK525 BK526 HK HB HI0; rename_i BK525 BK526 HK HB HI0; (try clear hb); (try clear hb2); (try clear hk); (try clear hi)) | ((with_reducible refine gate_dst (N := 7) rfl ?_); refine Kd.R_lit (Kd.int .i64) _ 3 ?hg (N := 7) ?hd (xs := ([10000, 10001] : List Int)) (inner := [.int .i64 10000, .int .i64 10001]) (ok := fun _ => True) (okp := fun _ => True) ?hr ?hp (fun _ hk => hk) trivial (Below.refl _ _) (Nat.le_refl _) (by simp) ?_; (case hd => rfl); (case hg => rfl); (case hr => first | (go_simp; done) | (go_simp; rfl)); (case hp => exact (Reps.one (show Kd.M (Kd.int .i64) _ _ _ 10000 [.int .i64 10000] from rfl) (Reps.one (show Kd.M (Kd.int .i64) _ _ _ 10001 [.int .i64 10001] from rfl) (Reps.none _ _)))); intro v560 w98 ho99 hb hg_ hnew_; clear hg_ hnew_; (first | rw [← Ny559.out] at ho99 | (simp only [Int.reduceToNat] at ho99; rw [← Ny559.out] at ho99)); have _ := ra (Kd.R_lower ho99 (keep_size (w := w) (g := g) (row := none) (qk _ _ _ HK))); have _ := ra (IsS127.below (qi HI0) hb); have _ := bb (bk BK525) hb; have _ := bb (bk BK526) hb; have _ := kt (qk _ _ _ HK) hb; have _ := ra (below_step (qb HI0 HB) hb); clear HI0 BK525 BK526 HK HB; rename_i HO561 HI0 BK525 BK526 HK HB; clear hb ho99) | ((with_reducible refine gate_callee (f := 87) rfl ?_); refine gl (some 9) Try.func87 #[.pointer (some ⟨g, 0, none⟩), .int .i64 2] ?_; (with_reducible refine (spec_l1Rd_pick.calls k g s0_0 t528 2 t562 t563 w0 _ ?side1 ?side2 A92.out).mono ?_); (case side1 => exact qi HI0); (case side2 => exact qb HI0 HB); rintro e w100 ⟨rfl, hi, hb, hk⟩; refine ⟨_, rfl, ?_⟩; have _ := kv hk (bk BK525) NB525_0; have _ := kv hk (bk BK526) NB526_0; have _ := ra (Kd.R_mono (Kd.R_keep (IsS127.apart (show IsS127 w0 _ g s0_0 t528 from qi HI0) (rq HO561) (by decide)) hk (fun _ h => h.2)) (fun _ h => h.1)); have _ := ku (qk _ _ _ HK) hk; have _ := ra (hb); have _ := ra (hi); clear BK525 BK526 HO561 HK HB HI0; rename_i BK525 BK526 HO561 HK HB HI0; (try clear hb); (try clear hb2); (try clear hk); (try clear hi); obtain ⟨Ao101, co101, eo101⟩ := Kd.R_slice HO561.out; subst eo101; have p564 : 0 ≤ (t562 : Int) := od; have q564 : t562 < (y559.length : Int) := od; obtain ⟨ad564, e564, hx564_0⟩ := Kd.at_int (Kd.R_reads' HO561.out).2.2 t562 p564 q564; cases e564; replace p564 := eq_true p564; replace q564 := eq_true q564; have hnb102 := NB525_526.out; have hnc102 := NB526_525.out; have hnb103 := NB525_0.out; have hnc103 := NB0_525.out; obtain ⟨hcz104_0, hcz104_1, hcz104_2, hcz104_3, hcz104_4, hcz104_5, hfz104_0, hfz104_1, hfz104_2, hfz104_3, hfz104_4, hfz104_5⟩ := zc6 BK525; have hnb105 := NB526_0.out; have hnc105 := NB0_526.out; obtain ⟨hcz106_0, hcz106_1, hcz106_2, hcz106_3, hcz106_4, hcz106_5, hfz106_0, hfz106_1, hfz106_2, hfz106_3, hfz106_4, hfz106_5⟩ := zc6 BK526))
        refine bodyPost_ret (results_cell_row rfl _ _ gb526 95 #[.int .i64 a1_0, .int .i64 a1_1, .int .i64 a1_2, .int .i64 a1_3, .int .i64 a1_4, .int .i64 (rd y559 t562)] (0, 0) _ rfl (bp BK526) Try.underlying95 rfl (by kernel_rfl)) rfl ?_
        exact ⟨re, by exact qi HI0, by exact qb HI0 HB, by exact qk _ _ _ HK⟩
       ·rw [if_neg c94] at H
        exact absurd H (by simp)
      ·rw [if_neg c93] at H
       exact absurd H (by simp)
attribute [local go_sem high] eqA49
set_option maxHeartbeats 8000000 in
set_option maxRecDepth 100000 in
theorem spec_l1Open.calls (A0 : Option Addr) (c0 : Nat) (l0 : List Int) (r1 : List Int) (r2 : Int) (w0 w : World) (hB : Below w0.heap.size w0 w) (hr0 : Kd.C (Kd.int .u8) w0 A0 l0.length l0) (hc0 : l0.length ≤ c0) (h : spec_l1Open.f l0 = some (r1, r2)) :
  Calls Try.prog 57 #[.slice A0 l0.length c0] w fun e w' => ∃ g_ : Nat, e = .returned (.pointer (some ⟨g_, 0, none⟩)) ∧ IsS127 w0 w' g_ r1 r2 ∧ Below w0.heap.size w0 w' ∧ Below w.heap.size w w' := by
 have hu127 := Try.underlying127
 have HR0 := Aside0.mk hr0
 have HC0 := Aside0.mk hc0
 clear hr0 hc0
 have HBW := ra (Below.refl w.heap.size w)
 have HW0 := Aside0.mk hB.size
 have HB := Aside0.mk hB
 clear hB
 have H : (if (l0.length : Int) > 2000 then (if 2000 ≤ (l0.length : Int) then (some (l0.take 2000, 0)) else (none)) else (some (l0, 0))) = some (r1, r2) := h
 clear h
 by_cases c2 : (l0.length : Int) > 2000
 ·rw [if_pos c2] at H
  have c2b0 : decide (2000 < (l0.length : Int)) = true := decide_eq_true c2
  have c2b1 : decide (2000 < l0.length) = true := decide_eq_true (by omega)
  clear c2
  by_cases c3 : 2000 ≤ (l0.length : Int)
  ·rw [if_pos c3] at H
   have c3b0 := eq_true c3
   have c3b1 : decide (2000 ≤ (l0.length : Int)) = true := decide_eq_true c3
   clear c3
   simp only [Option.some.injEq, Prod.mk.injEq] at H
   obtain ⟨rfl, rfl⟩ := H
   obtain ⟨i04, hi04, _, hsz4, _⟩ := info_parts info5
   obtain ⟨hcut4, hA4, hC4⟩ := print_take_of (P := Try.prog) (Value.int .u8) 0 45 5 .i64 Try.underlying45 hi04 hsz4 A0 c0 l0 2000 (by omega) (od) HC0.out
   have HR620 := ra (Kd.C_of_reads (h1 := fun _ => rfl) (hA4 _ (Kd.reads_of_C HR0.out)))
   have HC620 := Aside0.mk hC4
   clear hA4 hC4 hi04 hsz4
   go_enter Try.func57, Try.ntmps57
   go_wp2_with (first | ((with_reducible refine gate_dst (N := 10) rfl ?_); refine be 10 #[.slice A0 (l0.take 2000).length c0, .int .i64 0] 127 ?_; intro gb621 hg w5 hbox hb; have _ := ra (below_step HBW.out hb); have _ := bs hb; have _ := ra (hbox); have _ := ra ((by rw [hg]; exact (below_size (by repeat (first | (with_reducible first | exact HBW.out | apply below_alloc | apply pw_below_drewN | apply below_drew1) | exact HBW.out))) : w.heap.size ≤ gb621)); have _ := ra ((Nat.le_trans HW0.out (by rw [hg]; exact (below_size (by repeat (first | (with_reducible first | exact HBW.out | apply below_alloc | apply pw_below_drewN | apply below_drew1) | exact HBW.out))) : w.heap.size ≤ gb621) : w0.heap.size ≤ gb621)); clear HBW HB; rename_i HBW HB BK621 GW621 GE621; clear hb hbox hg))
   go_ret
   exact ⟨_, rfl, (show IsS127 w0 _ gb621 (l0.take 2000) 0 from ⟨_, _, bk BK621, GE621.out, HR620.out⟩), bq, by repeat (first | (with_reducible first | exact HBW.out | apply below_alloc | apply pw_below_drewN | apply below_drew1 | refine below_set ?_ GW621.out) | exact HBW.out)⟩
  ·rw [if_neg c3] at H
   exact absurd H (by simp)
 ·rw [if_neg c2] at H
  have c2b0 : decide (2000 < (l0.length : Int)) = false := decide_eq_false c2
  have c2b1 : decide (2000 < l0.length) = false := decide_eq_false (by omega)
  clear c2
  simp only [Option.some.injEq, Prod.mk.injEq] at H
  obtain ⟨rfl, rfl⟩ := H
  go_enter Try.func57, Try.ntmps57
  go_wp2_with (first | ((with_reducible refine gate_dst (N := 10) rfl ?_); refine be 10 #[.slice A0 l0.length c0, .int .i64 0] 127 ?_; intro gb622 hg w6 hbox hb; have _ := ra (below_step HBW.out hb); have _ := bs hb; have _ := ra (hbox); have _ := ra ((by rw [hg]; exact (below_size (by repeat (first | (with_reducible first | exact HBW.out | apply below_alloc | apply pw_below_drewN | apply below_drew1) | exact HBW.out))) : w.heap.size ≤ gb622)); have _ := ra ((Nat.le_trans HW0.out (by rw [hg]; exact (below_size (by repeat (first | (with_reducible first | exact HBW.out | apply below_alloc | apply pw_below_drewN | apply below_drew1) | exact HBW.out))) : w.heap.size ≤ gb622) : w0.heap.size ≤ gb622)); clear HBW HB; rename_i HBW HB BK622 GW622 GE622; clear hb hbox hg))
  go_ret
  exact ⟨_, rfl, (show IsS127 w0 _ gb622 l0 0 from ⟨_, _, bk BK622, GE622.out, HR0.out⟩), bq, by repeat (first | (with_reducible first | exact HBW.out | apply below_alloc | apply pw_below_drewN | apply below_drew1 | refine below_set ?_ GW622.out) | exact HBW.out)⟩
end Go.Proofs.Ytdbomnhdpniigaa.PA
