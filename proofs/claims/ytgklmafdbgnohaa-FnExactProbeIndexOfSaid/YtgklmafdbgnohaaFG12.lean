/- Contracts of the program's and the reference's functions (they began as prints of the kit's tool; shortened and joined). No condition beside what the Lean functions say. -/
import Derived.Test.YtgklmafdbgnohaaFPAd4
import Derived.Test.YtgklmafdbgnohaaFZCx5
import Derived.Test.YtgklmafdbgnohaaFR11
import Derived.Test.YtgklmafdbgnohaaFR9
section
namespace Go.Proofs.Ytgklmafdbgnohaa.PA
open Go.RowKit Go.Proofs.YtgklmafdbgnohaaW.PrintWords Go.Proofs.YtgklmafdbgnohaaW.PrintLast Go.Proofs.YtgklmafdbgnohaaW.PrintMore Go.Proofs.Ytgklmafdbgnohaa.Z
attribute [local go_sem] max2_int min2_int max_two min_two max_three min_three max_four min_four
set_option linter.unusedVariables false
set_option linter.unusedSimpArgs false
set_option maxHeartbeats 8000000 in
set_option maxRecDepth 100000 in
theorem spec_l1In.calls (a0 : Int) (a1 : Int) (a2 : Int) (r : Bool) (w : World) (h : spec_l1In.f a0 a1 a2 = some r) :
  Calls Try.prog 68 #[.int .i64 a0, .int .i64 a1, .int .i64 a2] w fun e w' => e = .returned (.bool r) ∧ Drawn0 w w' := by
 have H : (if a0 ≥ a1 then (some (decide (a0 ≤ a2))) else (some false)) = some r := h
 clear h
 by_cases c4 : a0 ≥ a1
 ·rw [if_pos c4] at H
  have c4b0 : decide (a1 ≤ a0) = true := decide_eq_true c4
  clear c4
  obtain rfl := Option.some.inj H
  go_enter Try.func68, Try.ntmps68
  go_wp2
  go_ret
  exact ⟨by first | rfl | (simp; done) | (simp [*]; done), by repeat (first | exact Drawn0.refl _ | apply Drawn0.step)⟩
 ·rw [if_neg c4] at H
  have c4b0 : decide (a1 ≤ a0) = false := decide_eq_false c4
  clear c4
  obtain rfl := Option.some.inj H
  go_enter Try.func68, Try.ntmps68
  go_wp2
  go_ret
  exact ⟨by first | rfl | (simp; done) | (simp [*]; done), by repeat (first | exact Drawn0.refl _ | apply Drawn0.step)⟩
set_option maxHeartbeats 8000000 in
set_option maxRecDepth 100000 in
theorem spec_l2NameOk.calls (k : Nat) (a0 : ByteArray) (r : Bool) (w : World) (h : spec_l2NameOk.f k a0 = some r) :
  Calls Try.prog 41 #[.string a0] w fun e w' => e = .returned (.bool r) ∧ Drawn0 w w' := by
 have H : ((spec_l1In.f (a0.size : Int) 1 8).bind fun t105 => (if t105 = true then (spec_l2NameOk.l0 k a0 0) else (some false))) = some r := h
 clear h
 obtain ⟨t105, A2, H⟩ := bo H
 by_cases c3 : t105 = true
 ·subst c3
  replace H := it H rfl
  have H' := Aside0.mk H
  clear H
  go_enter Try.func41, Try.ntmps41
  go_wp2_with (first | ((with_reducible refine gate_callee (f := 68) rfl ?_); refine gl (some 7) Try.func68 #[.int .i64 (a0.size : Int), .int .i64 1, .int .i64 8] ?_; (with_reducible refine (spec_l1In.calls (a0.size : Int) 1 8 true _ A2.out).mono ?_); rintro e w' ⟨rfl, ⟨nd, rfl⟩⟩; refine ⟨_, rfl, ?_⟩))
  go_loopg [3] k (fun kq v3 w' => ∃ (x3_1 : Int), v3 = .int .i64 x3_1 ∧ Aside0 (spec_l2NameOk.l0 kq a0 x3_1 = some r) ∧ Aside0 (kq ≤ k) ∧ Drawn0 w w')
  case atStart => exact ⟨(0), rs, H', ⟨Nat.le_refl _⟩, by repeat (first | exact Drawn0.refl _ | apply Drawn0.step)⟩
  case round =>
   clear H'
   try clear c3
   obtain ⟨x3_1, rfl, HA, HK1, ⟨m1, rfl⟩⟩ := hrel
   cases gk with
   | zero => exact absurd HA.out (by simp [spec_l2NameOk.l0])
   | succ k1 =>
    have H := HA.out
    clear HA
    simp only [spec_l2NameOk.l0] at H
    by_cases c4 : x3_1 < (a0.size : Int)
    ·rw [if_pos c4] at H
     have c4b0 : decide (x3_1 < (a0.size : Int)) = true := decide_eq_true c4
     clear c4
     by_cases c5 : 0 ≤ x3_1
     ·rw [if_pos c5] at H
      have c5b0 : decide (0 ≤ x3_1) = true := decide_eq_true c5
      clear c5
      by_cases c7 : (bt a0 x3_1) ≥ 97
      ·rw [if_pos c7] at H
       have c7b0 : decide (97 ≤ (bt a0 x3_1)) = true := decide_eq_true c7
       clear c7
       by_cases c8 : (bt a0 x3_1) ≤ 122
       ·rw [if_pos c8] at H
        have c8b0 : decide ((bt a0 x3_1) ≤ 122) = true := decide_eq_true c8
        clear c8
        have H' := Aside0.mk H
        clear H
        have p6 : 0 ≤ (x3_1 : Int) := od
        have q6 : x3_1 < (a0.size : Int) := od
        have hx6 := bt_at a0 x3_1
        replace p6 := eq_true p6
        replace q6 := eq_true q6
        go_wp2
        go_roundg k1
        case measure => have := HK1.out; omega
        case rel => exact ⟨(wrap64 (x3_1 + 1)), rs, H', ⟨by have := HK1.out; omega⟩, by repeat (first | exact Drawn0.refl _ | apply Drawn0.step)⟩
       ·rw [if_neg c8] at H
        have c8b0 : decide ((bt a0 x3_1) ≤ 122) = false := decide_eq_false c8
        clear c8
        by_cases c9 : (bt a0 x3_1) ≥ 48
        ·rw [if_pos c9] at H
         have c9b0 : decide (48 ≤ (bt a0 x3_1)) = true := decide_eq_true c9
         clear c9
         by_cases c10 : (bt a0 x3_1) ≤ 57
         ·rw [if_pos c10] at H
          have c10b0 : decide ((bt a0 x3_1) ≤ 57) = true := decide_eq_true c10
          clear c10
          have H' := Aside0.mk H
          clear H
          have p6 : 0 ≤ (x3_1 : Int) := od
          have q6 : x3_1 < (a0.size : Int) := od
          have hx6 := bt_at a0 x3_1
          replace p6 := eq_true p6
          replace q6 := eq_true q6
          go_wp2
          go_roundg k1
          case measure => have := HK1.out; omega
          case rel => exact ⟨(wrap64 (x3_1 + 1)), rs, H', ⟨by have := HK1.out; omega⟩, by repeat (first | exact Drawn0.refl _ | apply Drawn0.step)⟩
         ·rw [if_neg c10] at H
          have c10b0 : decide ((bt a0 x3_1) ≤ 57) = false := decide_eq_false c10
          clear c10
          by_cases c11 : ((bt a0 x3_1) = 45)
          ·rw [if_pos c11] at H
           have c11b0 : ((bt a0 x3_1) == 45) = true := beq_iff_eq.mpr c11
           have c11b1 : ((bt a0 x3_1) != 45) = false := bne_eq_false_iff_eq.mpr c11
           clear c11
           have H' := Aside0.mk H
           clear H
           have p6 : 0 ≤ (x3_1 : Int) := od
           have q6 : x3_1 < (a0.size : Int) := od
           have hx6 := bt_at a0 x3_1
           replace p6 := eq_true p6
           replace q6 := eq_true q6
           go_wp2
           go_roundg k1
           case measure => have := HK1.out; omega
           case rel => exact ⟨(wrap64 (x3_1 + 1)), rs, H', ⟨by have := HK1.out; omega⟩, by repeat (first | exact Drawn0.refl _ | apply Drawn0.step)⟩
          ·rw [if_neg c11] at H
           have c11b0 : ((bt a0 x3_1) == 45) = false := beq_eq_false_iff_ne.mpr c11
           have c11b1 : ((bt a0 x3_1) != 45) = true := bne_iff_ne.mpr c11
           obtain rfl := Option.some.inj H
           have p6 : 0 ≤ (x3_1 : Int) := od
           have q6 : x3_1 < (a0.size : Int) := od
           have hx6 := bt_at a0 x3_1
           replace p6 := eq_true p6
           replace q6 := eq_true q6
           go_wp2
           go_ret
           exact ⟨by first | rfl | (simp; done) | (simp [*]; done), by repeat (first | exact Drawn0.refl _ | apply Drawn0.step)⟩
        ·rw [if_neg c9] at H
         have c9b0 : decide (48 ≤ (bt a0 x3_1)) = false := decide_eq_false c9
         clear c9
         by_cases c12 : ((bt a0 x3_1) = 45)
         ·rw [if_pos c12] at H
          have c12b0 : ((bt a0 x3_1) == 45) = true := beq_iff_eq.mpr c12
          have c12b1 : ((bt a0 x3_1) != 45) = false := bne_eq_false_iff_eq.mpr c12
          clear c12
          have H' := Aside0.mk H
          clear H
          have p6 : 0 ≤ (x3_1 : Int) := od
          have q6 : x3_1 < (a0.size : Int) := od
          have hx6 := bt_at a0 x3_1
          replace p6 := eq_true p6
          replace q6 := eq_true q6
          go_wp2
          go_roundg k1
          case measure => have := HK1.out; omega
          case rel => exact ⟨(wrap64 (x3_1 + 1)), rs, H', ⟨by have := HK1.out; omega⟩, by repeat (first | exact Drawn0.refl _ | apply Drawn0.step)⟩
         ·rw [if_neg c12] at H
          have c12b0 : ((bt a0 x3_1) == 45) = false := beq_eq_false_iff_ne.mpr c12
          have c12b1 : ((bt a0 x3_1) != 45) = true := bne_iff_ne.mpr c12
          obtain rfl := Option.some.inj H
          have p6 : 0 ≤ (x3_1 : Int) := od
          have q6 : x3_1 < (a0.size : Int) := od
          have hx6 := bt_at a0 x3_1
          replace p6 := eq_true p6
          replace q6 := eq_true q6
          go_wp2
          go_ret
          exact ⟨by first | rfl | (simp; done) | (simp [*]; done), by repeat (first | exact Drawn0.refl _ | apply Drawn0.step)⟩
      ·rw [if_neg c7] at H
       have c7b0 : decide (97 ≤ (bt a0 x3_1)) = false := decide_eq_false c7
       clear c7
       by_cases c13 : (bt a0 x3_1) ≥ 48
       ·rw [if_pos c13] at H
        have c13b0 : decide (48 ≤ (bt a0 x3_1)) = true := decide_eq_true c13
        clear c13
        by_cases c14 : (bt a0 x3_1) ≤ 57
        ·rw [if_pos c14] at H
         have c14b0 : decide ((bt a0 x3_1) ≤ 57) = true := decide_eq_true c14
         clear c14
         have H' := Aside0.mk H
         clear H
         have p6 : 0 ≤ (x3_1 : Int) := od
         have q6 : x3_1 < (a0.size : Int) := od
         have hx6 := bt_at a0 x3_1
         replace p6 := eq_true p6
         replace q6 := eq_true q6
         go_wp2
         go_roundg k1
         case measure => have := HK1.out; omega
         case rel => exact ⟨(wrap64 (x3_1 + 1)), rs, H', ⟨by have := HK1.out; omega⟩, by repeat (first | exact Drawn0.refl _ | apply Drawn0.step)⟩
        ·rw [if_neg c14] at H
         have c14b0 : decide ((bt a0 x3_1) ≤ 57) = false := decide_eq_false c14
         clear c14
         by_cases c15 : ((bt a0 x3_1) = 45)
         ·rw [if_pos c15] at H
          have c15b0 : ((bt a0 x3_1) == 45) = true := beq_iff_eq.mpr c15
          have c15b1 : ((bt a0 x3_1) != 45) = false := bne_eq_false_iff_eq.mpr c15
          clear c15
          have H' := Aside0.mk H
          clear H
          have p6 : 0 ≤ (x3_1 : Int) := od
          have q6 : x3_1 < (a0.size : Int) := od
          have hx6 := bt_at a0 x3_1
          replace p6 := eq_true p6
          replace q6 := eq_true q6
          go_wp2
          go_roundg k1
          case measure => have := HK1.out; omega
          case rel => exact ⟨(wrap64 (x3_1 + 1)), rs, H', ⟨by have := HK1.out; omega⟩, by repeat (first | exact Drawn0.refl _ | apply Drawn0.step)⟩
         ·rw [if_neg c15] at H
          have c15b0 : ((bt a0 x3_1) == 45) = false := beq_eq_false_iff_ne.mpr c15
          have c15b1 : ((bt a0 x3_1) != 45) = true := bne_iff_ne.mpr c15
          obtain rfl := Option.some.inj H
          have p6 : 0 ≤ (x3_1 : Int) := od
          have q6 : x3_1 < (a0.size : Int) := od
          have hx6 := bt_at a0 x3_1
          replace p6 := eq_true p6
          replace q6 := eq_true q6
          go_wp2
          go_ret
          exact ⟨by first | rfl | (simp; done) | (simp [*]; done), by repeat (first | exact Drawn0.refl _ | apply Drawn0.step)⟩
       ·rw [if_neg c13] at H
        have c13b0 : decide (48 ≤ (bt a0 x3_1)) = false := decide_eq_false c13
        clear c13
        by_cases c16 : ((bt a0 x3_1) = 45)
        ·rw [if_pos c16] at H
         have c16b0 : ((bt a0 x3_1) == 45) = true := beq_iff_eq.mpr c16
         have c16b1 : ((bt a0 x3_1) != 45) = false := bne_eq_false_iff_eq.mpr c16
         clear c16
         have H' := Aside0.mk H
         clear H
         have p6 : 0 ≤ (x3_1 : Int) := od
         have q6 : x3_1 < (a0.size : Int) := od
         have hx6 := bt_at a0 x3_1
         replace p6 := eq_true p6
         replace q6 := eq_true q6
         go_wp2
         go_roundg k1
         case measure => have := HK1.out; omega
         case rel => exact ⟨(wrap64 (x3_1 + 1)), rs, H', ⟨by have := HK1.out; omega⟩, by repeat (first | exact Drawn0.refl _ | apply Drawn0.step)⟩
        ·rw [if_neg c16] at H
         have c16b0 : ((bt a0 x3_1) == 45) = false := beq_eq_false_iff_ne.mpr c16
         have c16b1 : ((bt a0 x3_1) != 45) = true := bne_iff_ne.mpr c16
         obtain rfl := Option.some.inj H
         have p6 : 0 ≤ (x3_1 : Int) := od
         have q6 : x3_1 < (a0.size : Int) := od
         have hx6 := bt_at a0 x3_1
         replace p6 := eq_true p6
         replace q6 := eq_true q6
         go_wp2
         go_ret
         exact ⟨by first | rfl | (simp; done) | (simp [*]; done), by repeat (first | exact Drawn0.refl _ | apply Drawn0.step)⟩
     ·rw [if_neg c5] at H
      exact absurd H (by simp)
    ·rw [if_neg c4] at H
     have c4b0 : decide (x3_1 < (a0.size : Int)) = false := decide_eq_false c4
     clear c4
     obtain rfl := Option.some.inj H
     go_wp2
     go_ret
     exact ⟨by first | rfl | (simp; done) | (simp [*]; done), by repeat (first | exact Drawn0.refl _ | apply Drawn0.step)⟩
 ·replace c3 := Bool.eq_false_iff.mpr c3
  subst c3
  have H1 : (some false) = some r := by rw [if_neg (show ¬ (false = true) by decide)] at H; exact H
  clear H
  have H := H1
  clear H1
  obtain rfl := Option.some.inj H
  go_enter Try.func41, Try.ntmps41
  go_wp2_with (first | ((with_reducible refine gate_callee (f := 68) rfl ?_); refine gl (some 7) Try.func68 #[.int .i64 (a0.size : Int), .int .i64 1, .int .i64 8] ?_; (with_reducible refine (spec_l1In.calls (a0.size : Int) 1 8 false _ A2.out).mono ?_); rintro e w' ⟨rfl, ⟨nd, rfl⟩⟩; refine ⟨_, rfl, ?_⟩))
  go_ret
  exact ⟨by first | rfl | (simp; done) | (simp [*]; done), by repeat (first | exact Drawn0.refl _ | apply Drawn0.step)⟩
set_option maxHeartbeats 8000000 in
set_option maxRecDepth 100000 in
theorem spec_ProbeBoxOk.calls (a0_0 : Int) (a0_1 : Int) (a0_2 : Int) (a0_3 : Int) (a0_4 : Int) (a0_5 : Int) (r : Bool) (w : World) (h : spec_ProbeBoxOk.f a0_0 a0_1 a0_2 a0_3 a0_4 a0_5 = some r) :
  Calls Try.prog 42 #[.agg #[.int .i64 a0_0, .int .i64 a0_1, .int .i64 a0_2, .int .i64 a0_3, .int .i64 a0_4, .int .i64 a0_5]] w fun e w' => e = .returned (.bool r) ∧ Below w.heap.size w w' := by
 have hu45 := Try.underlying45
 have HB := ra (Below.refl w.heap.size w)
 have H : ((spec_l1In.f a0_0 0 15).bind fun t107 => (if t107 = true then ((spec_l1In.f a0_1 0 15).bind fun t108 => (if t108 = true then ((spec_l1In.f a0_2 0 a0_3).bind fun t109 => (if t109 = true then (if a0_3 ≤ 6 then ((spec_l1In.f a0_4 0 a0_5).bind fun t110 => (if t110 = true then (some (decide (a0_5 ≤ 10000))) else (some false))) else (some false)) else (some false))) else (some false))) else (some false))) = some r := h
 clear h
 obtain ⟨t107, A2, H⟩ := bo H
 by_cases c3 : t107 = true
 ·subst c3
  replace H := it H rfl
  obtain ⟨t108, A4, H⟩ := bo H
  by_cases c5 : t108 = true
  ·subst c5
   replace H := it H rfl
   obtain ⟨t109, A6, H⟩ := bo H
   by_cases c7 : t109 = true
   ·subst c7
    replace H := it H rfl
    by_cases c8 : a0_3 ≤ 6
    ·rw [if_pos c8] at H
     have c8b0 : decide (a0_3 ≤ 6) = true := decide_eq_true c8
     clear c8
     obtain ⟨t110, A9, H⟩ := bo H
     by_cases c10 : t110 = true
     ·subst c10
      replace H := it H rfl
      obtain rfl := Option.some.inj H
      go_enter Try.func42, Try.ntmps42
      go_wp2_with (first | ((with_reducible refine gate_dst (N := 1) rfl ?_); refine be 1 #[.int .i64 a0_0, .int .i64 a0_1, .int .i64 a0_2, .int .i64 a0_3, .int .i64 a0_4, .int .i64 a0_5] 45 ?_; intro gb106 hg w11 hbox hb; have _ := bs hb; have _ := ra (hbox); have _ := bz (w0 := w) hg; have _ := bz (w0 := w) hg; clear HB; rename_i HB BK106 GW106 GE106; clear hb hbox hg; obtain ⟨hcz12_0, hcz12_1, hcz12_2, hcz12_3, hcz12_4, hcz12_5, hfz12_0, hfz12_1, hfz12_2, hfz12_3, hfz12_4, hfz12_5⟩ := zc6 BK106) | ((with_reducible refine gate_callee (f := 68) rfl ?_); refine gl (some 5) Try.func68 #[.int .i64 a0_0, .int .i64 0, .int .i64 15] ?_; (with_reducible refine (spec_l1In.calls a0_0 0 15 true _ A2.out).mono ?_); rintro e w' ⟨rfl, ⟨nd, rfl⟩⟩; refine ⟨_, rfl, ?_⟩) | (go_at_call 68; (with_reducible refine (spec_l1In.calls a0_1 0 15 true _ A4.out).mono ?_); rintro e w' ⟨rfl, ⟨nd, rfl⟩⟩) | (go_at_call 68; (with_reducible refine (spec_l1In.calls a0_2 0 a0_3 true _ A6.out).mono ?_); rintro e w' ⟨rfl, ⟨nd, rfl⟩⟩) | (go_at_call 68; (with_reducible refine (spec_l1In.calls a0_4 0 a0_5 true _ A9.out).mono ?_); rintro e w' ⟨rfl, ⟨nd, rfl⟩⟩))
      go_ret
      exact ⟨re, bq⟩
     ·replace c10 := Bool.eq_false_iff.mpr c10
      subst c10
      have H1 : (some false) = some r := by rw [if_neg (show ¬ (false = true) by decide)] at H; exact H
      clear H
      have H := H1
      clear H1
      obtain rfl := Option.some.inj H
      go_enter Try.func42, Try.ntmps42
      go_wp2_with (first | ((with_reducible refine gate_dst (N := 1) rfl ?_); refine be 1 #[.int .i64 a0_0, .int .i64 a0_1, .int .i64 a0_2, .int .i64 a0_3, .int .i64 a0_4, .int .i64 a0_5] 45 ?_; intro gb106 hg w13 hbox hb; have _ := bs hb; have _ := ra (hbox); have _ := bz (w0 := w) hg; have _ := bz (w0 := w) hg; clear HB; rename_i HB BK106 GW106 GE106; clear hb hbox hg; obtain ⟨hcz14_0, hcz14_1, hcz14_2, hcz14_3, hcz14_4, hcz14_5, hfz14_0, hfz14_1, hfz14_2, hfz14_3, hfz14_4, hfz14_5⟩ := zc6 BK106) | ((with_reducible refine gate_callee (f := 68) rfl ?_); refine gl (some 5) Try.func68 #[.int .i64 a0_0, .int .i64 0, .int .i64 15] ?_; (with_reducible refine (spec_l1In.calls a0_0 0 15 true _ A2.out).mono ?_); rintro e w' ⟨rfl, ⟨nd, rfl⟩⟩; refine ⟨_, rfl, ?_⟩) | (go_at_call 68; (with_reducible refine (spec_l1In.calls a0_1 0 15 true _ A4.out).mono ?_); rintro e w' ⟨rfl, ⟨nd, rfl⟩⟩) | (go_at_call 68; (with_reducible refine (spec_l1In.calls a0_2 0 a0_3 true _ A6.out).mono ?_); rintro e w' ⟨rfl, ⟨nd, rfl⟩⟩) | (go_at_call 68; (with_reducible refine (spec_l1In.calls a0_4 0 a0_5 false _ A9.out).mono ?_); rintro e w' ⟨rfl, ⟨nd, rfl⟩⟩))
      go_ret
      exact ⟨re, bq⟩
    ·rw [if_neg c8] at H
     have c8b0 : decide (a0_3 ≤ 6) = false := decide_eq_false c8
     clear c8
     obtain rfl := Option.some.inj H
     go_enter Try.func42, Try.ntmps42
     go_wp2_with (first | ((with_reducible refine gate_dst (N := 1) rfl ?_); refine be 1 #[.int .i64 a0_0, .int .i64 a0_1, .int .i64 a0_2, .int .i64 a0_3, .int .i64 a0_4, .int .i64 a0_5] 45 ?_; intro gb106 hg w15 hbox hb; have _ := bs hb; have _ := ra (hbox); have _ := bz (w0 := w) hg; have _ := bz (w0 := w) hg; clear HB; rename_i HB BK106 GW106 GE106; clear hb hbox hg; obtain ⟨hcz16_0, hcz16_1, hcz16_2, hcz16_3, hcz16_4, hcz16_5, hfz16_0, hfz16_1, hfz16_2, hfz16_3, hfz16_4, hfz16_5⟩ := zc6 BK106) | ((with_reducible refine gate_callee (f := 68) rfl ?_); refine gl (some 5) Try.func68 #[.int .i64 a0_0, .int .i64 0, .int .i64 15] ?_; (with_reducible refine (spec_l1In.calls a0_0 0 15 true _ A2.out).mono ?_); rintro e w' ⟨rfl, ⟨nd, rfl⟩⟩; refine ⟨_, rfl, ?_⟩) | (go_at_call 68; (with_reducible refine (spec_l1In.calls a0_1 0 15 true _ A4.out).mono ?_); rintro e w' ⟨rfl, ⟨nd, rfl⟩⟩) | (go_at_call 68; (with_reducible refine (spec_l1In.calls a0_2 0 a0_3 true _ A6.out).mono ?_); rintro e w' ⟨rfl, ⟨nd, rfl⟩⟩))
     go_ret
     exact ⟨re, bq⟩
   ·replace c7 := Bool.eq_false_iff.mpr c7
    subst c7
    have H1 : (some false) = some r := by rw [if_neg (show ¬ (false = true) by decide)] at H; exact H
    clear H
    have H := H1
    clear H1
    obtain rfl := Option.some.inj H
    go_enter Try.func42, Try.ntmps42
    go_wp2_with (first | ((with_reducible refine gate_dst (N := 1) rfl ?_); refine be 1 #[.int .i64 a0_0, .int .i64 a0_1, .int .i64 a0_2, .int .i64 a0_3, .int .i64 a0_4, .int .i64 a0_5] 45 ?_; intro gb106 hg w17 hbox hb; have _ := bs hb; have _ := ra (hbox); have _ := bz (w0 := w) hg; have _ := bz (w0 := w) hg; clear HB; rename_i HB BK106 GW106 GE106; clear hb hbox hg; obtain ⟨hcz18_0, hcz18_1, hcz18_2, hcz18_3, hcz18_4, hcz18_5, hfz18_0, hfz18_1, hfz18_2, hfz18_3, hfz18_4, hfz18_5⟩ := zc6 BK106) | ((with_reducible refine gate_callee (f := 68) rfl ?_); refine gl (some 5) Try.func68 #[.int .i64 a0_0, .int .i64 0, .int .i64 15] ?_; (with_reducible refine (spec_l1In.calls a0_0 0 15 true _ A2.out).mono ?_); rintro e w' ⟨rfl, ⟨nd, rfl⟩⟩; refine ⟨_, rfl, ?_⟩) | (go_at_call 68; (with_reducible refine (spec_l1In.calls a0_1 0 15 true _ A4.out).mono ?_); rintro e w' ⟨rfl, ⟨nd, rfl⟩⟩) | (go_at_call 68; (with_reducible refine (spec_l1In.calls a0_2 0 a0_3 false _ A6.out).mono ?_); rintro e w' ⟨rfl, ⟨nd, rfl⟩⟩))
    go_ret
    exact ⟨re, bq⟩
  ·replace c5 := Bool.eq_false_iff.mpr c5
   subst c5
   have H1 : (some false) = some r := by rw [if_neg (show ¬ (false = true) by decide)] at H; exact H
   clear H
   have H := H1
   clear H1
   obtain rfl := Option.some.inj H
   go_enter Try.func42, Try.ntmps42
   go_wp2_with (first | ((with_reducible refine gate_dst (N := 1) rfl ?_); refine be 1 #[.int .i64 a0_0, .int .i64 a0_1, .int .i64 a0_2, .int .i64 a0_3, .int .i64 a0_4, .int .i64 a0_5] 45 ?_; intro gb106 hg w19 hbox hb; have _ := bs hb; have _ := ra (hbox); have _ := bz (w0 := w) hg; have _ := bz (w0 := w) hg; clear HB; rename_i HB BK106 GW106 GE106; clear hb hbox hg; obtain ⟨hcz20_0, hcz20_1, hcz20_2, hcz20_3, hcz20_4, hcz20_5, hfz20_0, hfz20_1, hfz20_2, hfz20_3, hfz20_4, hfz20_5⟩ := zc6 BK106) | ((with_reducible refine gate_callee (f := 68) rfl ?_); refine gl (some 5) Try.func68 #[.int .i64 a0_0, .int .i64 0, .int .i64 15] ?_; (with_reducible refine (spec_l1In.calls a0_0 0 15 true _ A2.out).mono ?_); rintro e w' ⟨rfl, ⟨nd, rfl⟩⟩; refine ⟨_, rfl, ?_⟩) | (go_at_call 68; (with_reducible refine (spec_l1In.calls a0_1 0 15 false _ A4.out).mono ?_); rintro e w' ⟨rfl, ⟨nd, rfl⟩⟩))
   go_ret
   exact ⟨re, bq⟩
 ·replace c3 := Bool.eq_false_iff.mpr c3
  subst c3
  have H1 : (some false) = some r := by rw [if_neg (show ¬ (false = true) by decide)] at H; exact H
  clear H
  have H := H1
  clear H1
  obtain rfl := Option.some.inj H
  go_enter Try.func42, Try.ntmps42
  go_wp2_with (first | ((with_reducible refine gate_dst (N := 1) rfl ?_); refine be 1 #[.int .i64 a0_0, .int .i64 a0_1, .int .i64 a0_2, .int .i64 a0_3, .int .i64 a0_4, .int .i64 a0_5] 45 ?_; intro gb106 hg w21 hbox hb; have _ := bs hb; have _ := ra (hbox); have _ := bz (w0 := w) hg; have _ := bz (w0 := w) hg; clear HB; rename_i HB BK106 GW106 GE106; clear hb hbox hg; obtain ⟨hcz22_0, hcz22_1, hcz22_2, hcz22_3, hcz22_4, hcz22_5, hfz22_0, hfz22_1, hfz22_2, hfz22_3, hfz22_4, hfz22_5⟩ := zc6 BK106) | ((with_reducible refine gate_callee (f := 68) rfl ?_); refine gl (some 5) Try.func68 #[.int .i64 a0_0, .int .i64 0, .int .i64 15] ?_; (with_reducible refine (spec_l1In.calls a0_0 0 15 false _ A2.out).mono ?_); rintro e w' ⟨rfl, ⟨nd, rfl⟩⟩; refine ⟨_, rfl, ?_⟩))
  go_ret
  exact ⟨re, bq⟩
set_option maxHeartbeats 8000000 in
set_option maxRecDepth 100000 in
theorem spec_ProbeTubeOk.calls (k : Nat) (a0_0 : ByteArray) (A0_1 : Option Addr) (c0_1 : Nat) (l0_1 : List (S45)) (r : Bool) (w : World) (hr0_1 : Kd.C k45 w A0_1 l0_1.length l0_1) (hc0_1 : l0_1.length ≤ c0_1) (h : spec_ProbeTubeOk.f k a0_0 l0_1 = some r) :
  Calls Try.prog 28 #[.agg #[.string a0_0, .slice A0_1 l0_1.length c0_1]] w fun e w' => e = .returned (.bool r) ∧ Below w.heap.size w w' := by
 have hu42 := Try.underlying42
 have hu45 := Try.underlying45
 have HR0_1 := Aside0.mk hr0_1
 have HC0_1 := Aside0.mk hc0_1
 clear hr0_1 hc0_1
 have HB := ra (Below.refl w.heap.size w)
 have H : ((spec_l2NameOk.f k a0_0).bind fun t112 => (if t112 = true then (spec_ProbeTubeOk.j0 k (decide ((l0_1.length : Int) > 40)) a0_0 l0_1) else (spec_ProbeTubeOk.j0 k true a0_0 l0_1))) = some r := h
 clear h
 have HC2 := Aside0.mk H
 clear H
 go_enter Try.func28, Try.ntmps28
 go_upto_region 1 with (first | ((with_reducible refine gate_dst (N := 1) rfl ?_); (try (refine gate_guard (by rfl) ?_; dsimp only)); refine be 1 #[.string a0_0, .slice A0_1 l0_1.length c0_1] 42 ?_; intro gb111 hg w3 hbox hb; have _ := bs hb; have _ := ra (hbox); have _ := bz (w0 := w) hg; have _ := bz (w0 := w) hg; clear HB; rename_i HB BK111 GW111 GE111; clear hb hbox hg))
 (try simp only [Act.put, List.setIfInBounds_toArray, List.set_cons_zero, List.set_cons_succ])
 go_cut [13] (fun v13 wc => ∃ (kq : Nat) (x13_1 : Bool), v13 = .bool x13_1 ∧ Aside0 (spec_ProbeTubeOk.j0 kq x13_1 a0_0 l0_1 = some r) ∧ Aside0 (kq ≤ k) ∧ Aside0 (wc.heap[gb111]? = some (.cells #[.string a0_0, (.slice A0_1 l0_1.length c0_1)] 42 (0, 0))) ∧ Aside0 (Below w.heap.size w wc))
 case first =>
  have H := HC2.out
  clear HC2
  obtain ⟨t112, A4, H⟩ := bo H
  by_cases c5 : t112 = true
  ·subst c5
   replace H := it H rfl
   have H' := Aside0.mk H
   clear H
   obtain ⟨hcz6_0, hcz6_1, hfz6_0, hfz6_1⟩ := zc2 BK111
   go_wp2_with (first | ((with_reducible refine gate_callee (f := 41) rfl ?_); refine gl (some 6) Try.func41 #[.string a0_0] ?_; (with_reducible refine (spec_l2NameOk.calls k a0_0 true _ A4.out).mono ?_); rintro e w' ⟨rfl, ⟨nd, rfl⟩⟩; refine ⟨_, rfl, ?_⟩))
   go_meet
   case rel => exact ⟨_, (decide ((l0_1.length : Int) > 40)), rs, H', ⟨by first | omega | exact Nat.le_refl _⟩, ⟨bk BK111⟩, ⟨bq⟩⟩
  ·replace c5 := Bool.eq_false_iff.mpr c5
   subst c5
   have H1 : (spec_ProbeTubeOk.j0 k true a0_0 l0_1) = some r := by rw [if_neg (show ¬ (false = true) by decide)] at H; exact H
   clear H
   have H := H1
   clear H1
   have H' := Aside0.mk H
   clear H
   obtain ⟨hcz7_0, hcz7_1, hfz7_0, hfz7_1⟩ := zc2 BK111
   go_wp2_with (first | ((with_reducible refine gate_callee (f := 41) rfl ?_); refine gl (some 6) Try.func41 #[.string a0_0] ?_; (with_reducible refine (spec_l2NameOk.calls k a0_0 false _ A4.out).mono ?_); rintro e w' ⟨rfl, ⟨nd, rfl⟩⟩; refine ⟨_, rfl, ?_⟩))
   go_meet
   case rel => exact ⟨_, (true), rs, H', ⟨by first | omega | exact Nat.le_refl _⟩, ⟨bk BK111⟩, ⟨bq⟩⟩
 case rest =>
  clear HC2
  try clear c5
  try clear hcz6_0
  try clear hcz6_1
  try clear hcz7_0
  try clear hcz7_1
  try clear hfz6_0
  try clear hfz6_1
  try clear hfz7_0
  try clear hfz7_1
  obtain ⟨kq, x13_1, rfl, HA, HJ1, BK111, HB⟩ := hcut
  cases kq with
  | zero => exact absurd HA.out (by simp [spec_ProbeTubeOk.j0])
  | succ kj1 =>
   have H := HA.out
   clear HA
   simp only [spec_ProbeTubeOk.j0] at H
   by_cases c8 : x13_1 = true
   ·subst c8
    replace H := it H rfl
    obtain rfl := Option.some.inj H
    go_wp2
    go_ret
    exact ⟨re, bq⟩
   ·replace c8 := Bool.eq_false_iff.mpr c8
    subst c8
    have H1 : (spec_ProbeTubeOk.l0 kj1 0 a0_0 l0_1) = some r := by rw [if_neg (show ¬ (false = true) by decide)] at H; exact H
    clear H
    have H := H1
    clear H1
    have H' := Aside0.mk H
    clear H
    go_wp2
    go_loopg [3] kj1 (fun kq v3 w' => ∃ (x3_2 : Int), v3 = .int .i64 x3_2 ∧ Aside0 (spec_ProbeTubeOk.l0 kq x3_2 a0_0 l0_1 = some r) ∧ Aside0 (kq ≤ kj1) ∧ Aside0 (w'.heap[gb111]? = some (.cells #[.string a0_0, (.slice A0_1 l0_1.length c0_1)] 42 (0, 0))) ∧ Aside0 (Below w.heap.size w w'))
    case atStart => exact ⟨(0), rs, H', ⟨Nat.le_refl _⟩, ⟨bk BK111⟩, ⟨bq⟩⟩
    case round =>
     clear H'
     try clear c5
     try clear c8
     try clear hcz6_0
     try clear hcz6_1
     try clear hcz7_0
     try clear hcz7_1
     try clear hfz6_0
     try clear hfz6_1
     try clear hfz7_0
     try clear hfz7_1
     obtain ⟨x3_2, rfl, HA, HK2, BK111, HB⟩ := hrel
     cases gk with
     | zero => exact absurd HA.out (by simp [spec_ProbeTubeOk.l0])
     | succ k2 =>
      have H := HA.out
      clear HA
      simp only [spec_ProbeTubeOk.l0] at H
      by_cases c9 : x3_2 < (l0_1.length : Int)
      ·rw [if_pos c9] at H
       have c9b0 : decide (x3_2 < (l0_1.length : Int)) = true := decide_eq_true c9
       clear c9
       by_cases c10 : 0 ≤ x3_2
       ·rw [if_pos c10] at H
        have c10b0 : decide (0 ≤ x3_2) = true := decide_eq_true c10
        clear c10
        obtain ⟨t114, A11, H⟩ := bo H
        by_cases c12 : t114 = true
        ·subst c12
         replace H := it H rfl
         have H' := Aside0.mk H
         clear H
         obtain ⟨hcz13_0, hcz13_1, hfz13_0, hfz13_1⟩ := zc2 BK111
         have p113 : 0 ≤ (x3_2 : Int) := od
         have q113 : x3_2 < (l0_1.length : Int) := od
         obtain ⟨ad113, e113, hx113_0, hx113_1, hx113_2, hx113_3, hx113_4, hx113_5⟩ := at_T45 HR0_1.out x3_2 p113 q113
         cases e113
         replace hx113_0 := hc HB hx113_0
         replace hx113_1 := hc HB hx113_1
         replace hx113_2 := hc HB hx113_2
         replace hx113_3 := hc HB hx113_3
         replace hx113_4 := hc HB hx113_4
         replace hx113_5 := hc HB hx113_5
         replace p113 := eq_true p113
         replace q113 := eq_true q113
         go_wp2_with (first | ((with_reducible refine gate_callee (f := 42) rfl ?_); refine gl (some 26) Try.func42 #[.agg #[.int .i64 ((rd_T45 l0_1 x3_2).f0), .int .i64 ((rd_T45 l0_1 x3_2).f1), .int .i64 ((rd_T45 l0_1 x3_2).f2), .int .i64 ((rd_T45 l0_1 x3_2).f3), .int .i64 ((rd_T45 l0_1 x3_2).f4), .int .i64 ((rd_T45 l0_1 x3_2).f5)]] ?_; (with_reducible refine (spec_ProbeBoxOk.calls ((rd_T45 l0_1 x3_2).f0) ((rd_T45 l0_1 x3_2).f1) ((rd_T45 l0_1 x3_2).f2) ((rd_T45 l0_1 x3_2).f3) ((rd_T45 l0_1 x3_2).f4) ((rd_T45 l0_1 x3_2).f5) true _ A11.out).mono ?_); rintro e w14 ⟨rfl, hb⟩; refine ⟨_, rfl, ?_⟩; have _ := bb (bk BK111) hb; have _ := bs hb; clear BK111 HB; rename_i BK111 HB; (try clear hb); (try clear hb2); (try clear hk); (try clear hi)))
         go_roundg k2
         case measure => have := HJ1.out; have := HK2.out; omega
         case rel => exact ⟨(wrap64 (x3_2 + 1)), rs, H', ⟨by have := HJ1.out; have := HK2.out; omega⟩, ⟨bk BK111⟩, ⟨bq⟩⟩
        ·replace c12 := Bool.eq_false_iff.mpr c12
         subst c12
         have H1 : (some false) = some r := by rw [if_neg (show ¬ (false = true) by decide)] at H; exact H
         clear H
         have H := H1
         clear H1
         obtain rfl := Option.some.inj H
         obtain ⟨hcz15_0, hcz15_1, hfz15_0, hfz15_1⟩ := zc2 BK111
         have p113 : 0 ≤ (x3_2 : Int) := od
         have q113 : x3_2 < (l0_1.length : Int) := od
         obtain ⟨ad113, e113, hx113_0, hx113_1, hx113_2, hx113_3, hx113_4, hx113_5⟩ := at_T45 HR0_1.out x3_2 p113 q113
         cases e113
         replace hx113_0 := hc HB hx113_0
         replace hx113_1 := hc HB hx113_1
         replace hx113_2 := hc HB hx113_2
         replace hx113_3 := hc HB hx113_3
         replace hx113_4 := hc HB hx113_4
         replace hx113_5 := hc HB hx113_5
         replace p113 := eq_true p113
         replace q113 := eq_true q113
         go_wp2_with (first | ((with_reducible refine gate_callee (f := 42) rfl ?_); refine gl (some 26) Try.func42 #[.agg #[.int .i64 ((rd_T45 l0_1 x3_2).f0), .int .i64 ((rd_T45 l0_1 x3_2).f1), .int .i64 ((rd_T45 l0_1 x3_2).f2), .int .i64 ((rd_T45 l0_1 x3_2).f3), .int .i64 ((rd_T45 l0_1 x3_2).f4), .int .i64 ((rd_T45 l0_1 x3_2).f5)]] ?_; (with_reducible refine (spec_ProbeBoxOk.calls ((rd_T45 l0_1 x3_2).f0) ((rd_T45 l0_1 x3_2).f1) ((rd_T45 l0_1 x3_2).f2) ((rd_T45 l0_1 x3_2).f3) ((rd_T45 l0_1 x3_2).f4) ((rd_T45 l0_1 x3_2).f5) false _ A11.out).mono ?_); rintro e w16 ⟨rfl, hb⟩; refine ⟨_, rfl, ?_⟩; have _ := bb (bk BK111) hb; have _ := bs hb; clear BK111 HB; rename_i BK111 HB; (try clear hb); (try clear hb2); (try clear hk); (try clear hi)))
         go_ret
         exact ⟨re, bq⟩
       ·rw [if_neg c10] at H
        exact absurd H (by simp)
      ·rw [if_neg c9] at H
       have c9b0 : decide (x3_2 < (l0_1.length : Int)) = false := decide_eq_false c9
       clear c9
       obtain rfl := Option.some.inj H
       obtain ⟨hcz17_0, hcz17_1, hfz17_0, hfz17_1⟩ := zc2 BK111
       go_wp2
       go_ret
       exact ⟨re, bq⟩
set_option maxHeartbeats 8000000 in
set_option maxRecDepth 100000 in
theorem impl_in.calls (a0 : Int) (a1 : Int) (a2 : Int) (r : Bool) (w : World) (h : impl_in.f a0 a1 a2 = some r) :
  Calls Try.prog 45 #[.int .i64 a0, .int .i64 a1, .int .i64 a2] w fun e w' => e = .returned (.bool r) ∧ Drawn0 w w' := by
 have H : (if a0 ≥ a1 then (some (decide (a0 ≤ a2))) else (some false)) = some r := h
 clear h
 by_cases c4 : a0 ≥ a1
 ·rw [if_pos c4] at H
  have c4b0 : decide (a1 ≤ a0) = true := decide_eq_true c4
  clear c4
  obtain rfl := Option.some.inj H
  go_enter Try.func45, Try.ntmps45
  go_wp2
  go_ret
  exact ⟨by first | rfl | (simp; done) | (simp [*]; done), by repeat (first | exact Drawn0.refl _ | apply Drawn0.step)⟩
 ·rw [if_neg c4] at H
  have c4b0 : decide (a1 ≤ a0) = false := decide_eq_false c4
  clear c4
  obtain rfl := Option.some.inj H
  go_enter Try.func45, Try.ntmps45
  go_wp2
  go_ret
  exact ⟨by first | rfl | (simp; done) | (simp [*]; done), by repeat (first | exact Drawn0.refl _ | apply Drawn0.step)⟩
set_option maxHeartbeats 8000000 in
set_option maxRecDepth 100000 in
theorem impl_ProbeBoxOk.calls (a0_0 : Int) (a0_1 : Int) (a0_2 : Int) (a0_3 : Int) (a0_4 : Int) (a0_5 : Int) (r : Bool) (w : World) (h : impl_ProbeBoxOk.f a0_0 a0_1 a0_2 a0_3 a0_4 a0_5 = some r) :
  Calls Try.prog 46 #[.agg #[.int .i64 a0_0, .int .i64 a0_1, .int .i64 a0_2, .int .i64 a0_3, .int .i64 a0_4, .int .i64 a0_5]] w fun e w' => e = .returned (.bool r) ∧ Below w.heap.size w w' := by
 have hu45 := Try.underlying45
 have HB := ra (Below.refl w.heap.size w)
 have H : ((impl_in.f a0_0 0 15).bind fun t308 => (if t308 = true then ((impl_in.f a0_1 0 15).bind fun t309 => (if t309 = true then (if a0_2 ≥ 0 then (if a0_2 ≤ a0_3 then (if a0_3 ≤ 6 then (if a0_4 ≥ 0 then (if a0_4 ≤ a0_5 then (some (decide (a0_5 ≤ 10000))) else (some false)) else (some false)) else (some false)) else (some false)) else (some false)) else (some false))) else (some false))) = some r := h
 clear h
 obtain ⟨t308, A2, H⟩ := bo H
 by_cases c3 : t308 = true
 ·subst c3
  replace H := it H rfl
  obtain ⟨t309, A4, H⟩ := bo H
  by_cases c5 : t309 = true
  ·subst c5
   replace H := it H rfl
   by_cases c6 : a0_2 ≥ 0
   ·rw [if_pos c6] at H
    have c6b0 : decide (0 ≤ a0_2) = true := decide_eq_true c6
    clear c6
    by_cases c7 : a0_2 ≤ a0_3
    ·rw [if_pos c7] at H
     have c7b0 : decide (a0_2 ≤ a0_3) = true := decide_eq_true c7
     clear c7
     by_cases c8 : a0_3 ≤ 6
     ·rw [if_pos c8] at H
      have c8b0 : decide (a0_3 ≤ 6) = true := decide_eq_true c8
      clear c8
      by_cases c9 : a0_4 ≥ 0
      ·rw [if_pos c9] at H
       have c9b0 : decide (0 ≤ a0_4) = true := decide_eq_true c9
       clear c9
       by_cases c10 : a0_4 ≤ a0_5
       ·rw [if_pos c10] at H
        have c10b0 : decide (a0_4 ≤ a0_5) = true := decide_eq_true c10
        clear c10
        obtain rfl := Option.some.inj H
        go_enter Try.func46, Try.ntmps46
        go_wp2_with (first | ((with_reducible refine gate_dst (N := 1) rfl ?_); refine be 1 #[.int .i64 a0_0, .int .i64 a0_1, .int .i64 a0_2, .int .i64 a0_3, .int .i64 a0_4, .int .i64 a0_5] 45 ?_; intro gb307 hg w11 hbox hb; have _ := bs hb; have _ := ra (hbox); have _ := bz (w0 := w) hg; have _ := bz (w0 := w) hg; clear HB; rename_i HB BK307 GW307 GE307; clear hb hbox hg; obtain ⟨hcz12_0, hcz12_1, hcz12_2, hcz12_3, hcz12_4, hcz12_5, hfz12_0, hfz12_1, hfz12_2, hfz12_3, hfz12_4, hfz12_5⟩ := zc6 BK307) | ((with_reducible refine gate_callee (f := 45) rfl ?_); refine gl (some 5) Try.func45 #[.int .i64 a0_0, .int .i64 0, .int .i64 15] ?_; (with_reducible refine (impl_in.calls a0_0 0 15 true _ A2.out).mono ?_); rintro e w' ⟨rfl, ⟨nd, rfl⟩⟩; refine ⟨_, rfl, ?_⟩) | (go_at_call 45; (with_reducible refine (impl_in.calls a0_1 0 15 true _ A4.out).mono ?_); rintro e w' ⟨rfl, ⟨nd, rfl⟩⟩))
        go_ret
        exact ⟨re, bq⟩
       ·rw [if_neg c10] at H
        have c10b0 : decide (a0_4 ≤ a0_5) = false := decide_eq_false c10
        clear c10
        obtain rfl := Option.some.inj H
        go_enter Try.func46, Try.ntmps46
        go_wp2_with (first | ((with_reducible refine gate_dst (N := 1) rfl ?_); refine be 1 #[.int .i64 a0_0, .int .i64 a0_1, .int .i64 a0_2, .int .i64 a0_3, .int .i64 a0_4, .int .i64 a0_5] 45 ?_; intro gb307 hg w13 hbox hb; have _ := bs hb; have _ := ra (hbox); have _ := bz (w0 := w) hg; have _ := bz (w0 := w) hg; clear HB; rename_i HB BK307 GW307 GE307; clear hb hbox hg; obtain ⟨hcz14_0, hcz14_1, hcz14_2, hcz14_3, hcz14_4, hcz14_5, hfz14_0, hfz14_1, hfz14_2, hfz14_3, hfz14_4, hfz14_5⟩ := zc6 BK307) | ((with_reducible refine gate_callee (f := 45) rfl ?_); refine gl (some 5) Try.func45 #[.int .i64 a0_0, .int .i64 0, .int .i64 15] ?_; (with_reducible refine (impl_in.calls a0_0 0 15 true _ A2.out).mono ?_); rintro e w' ⟨rfl, ⟨nd, rfl⟩⟩; refine ⟨_, rfl, ?_⟩) | (go_at_call 45; (with_reducible refine (impl_in.calls a0_1 0 15 true _ A4.out).mono ?_); rintro e w' ⟨rfl, ⟨nd, rfl⟩⟩))
        go_ret
        exact ⟨re, bq⟩
      ·rw [if_neg c9] at H
       have c9b0 : decide (0 ≤ a0_4) = false := decide_eq_false c9
       clear c9
       obtain rfl := Option.some.inj H
       go_enter Try.func46, Try.ntmps46
       go_wp2_with (first | ((with_reducible refine gate_dst (N := 1) rfl ?_); refine be 1 #[.int .i64 a0_0, .int .i64 a0_1, .int .i64 a0_2, .int .i64 a0_3, .int .i64 a0_4, .int .i64 a0_5] 45 ?_; intro gb307 hg w15 hbox hb; have _ := bs hb; have _ := ra (hbox); have _ := bz (w0 := w) hg; have _ := bz (w0 := w) hg; clear HB; rename_i HB BK307 GW307 GE307; clear hb hbox hg; obtain ⟨hcz16_0, hcz16_1, hcz16_2, hcz16_3, hcz16_4, hcz16_5, hfz16_0, hfz16_1, hfz16_2, hfz16_3, hfz16_4, hfz16_5⟩ := zc6 BK307) | ((with_reducible refine gate_callee (f := 45) rfl ?_); refine gl (some 5) Try.func45 #[.int .i64 a0_0, .int .i64 0, .int .i64 15] ?_; (with_reducible refine (impl_in.calls a0_0 0 15 true _ A2.out).mono ?_); rintro e w' ⟨rfl, ⟨nd, rfl⟩⟩; refine ⟨_, rfl, ?_⟩) | (go_at_call 45; (with_reducible refine (impl_in.calls a0_1 0 15 true _ A4.out).mono ?_); rintro e w' ⟨rfl, ⟨nd, rfl⟩⟩))
       go_ret
       exact ⟨re, bq⟩
     ·rw [if_neg c8] at H
      have c8b0 : decide (a0_3 ≤ 6) = false := decide_eq_false c8
      clear c8
      obtain rfl := Option.some.inj H
      go_enter Try.func46, Try.ntmps46
      go_wp2_with (first | ((with_reducible refine gate_dst (N := 1) rfl ?_); refine be 1 #[.int .i64 a0_0, .int .i64 a0_1, .int .i64 a0_2, .int .i64 a0_3, .int .i64 a0_4, .int .i64 a0_5] 45 ?_; intro gb307 hg w17 hbox hb; have _ := bs hb; have _ := ra (hbox); have _ := bz (w0 := w) hg; have _ := bz (w0 := w) hg; clear HB; rename_i HB BK307 GW307 GE307; clear hb hbox hg; obtain ⟨hcz18_0, hcz18_1, hcz18_2, hcz18_3, hcz18_4, hcz18_5, hfz18_0, hfz18_1, hfz18_2, hfz18_3, hfz18_4, hfz18_5⟩ := zc6 BK307) | ((with_reducible refine gate_callee (f := 45) rfl ?_); refine gl (some 5) Try.func45 #[.int .i64 a0_0, .int .i64 0, .int .i64 15] ?_; (with_reducible refine (impl_in.calls a0_0 0 15 true _ A2.out).mono ?_); rintro e w' ⟨rfl, ⟨nd, rfl⟩⟩; refine ⟨_, rfl, ?_⟩) | (go_at_call 45; (with_reducible refine (impl_in.calls a0_1 0 15 true _ A4.out).mono ?_); rintro e w' ⟨rfl, ⟨nd, rfl⟩⟩))
      go_ret
      exact ⟨re, bq⟩
    ·rw [if_neg c7] at H
     have c7b0 : decide (a0_2 ≤ a0_3) = false := decide_eq_false c7
     clear c7
     obtain rfl := Option.some.inj H
     go_enter Try.func46, Try.ntmps46
     go_wp2_with (first | ((with_reducible refine gate_dst (N := 1) rfl ?_); refine be 1 #[.int .i64 a0_0, .int .i64 a0_1, .int .i64 a0_2, .int .i64 a0_3, .int .i64 a0_4, .int .i64 a0_5] 45 ?_; intro gb307 hg w19 hbox hb; have _ := bs hb; have _ := ra (hbox); have _ := bz (w0 := w) hg; have _ := bz (w0 := w) hg; clear HB; rename_i HB BK307 GW307 GE307; clear hb hbox hg; obtain ⟨hcz20_0, hcz20_1, hcz20_2, hcz20_3, hcz20_4, hcz20_5, hfz20_0, hfz20_1, hfz20_2, hfz20_3, hfz20_4, hfz20_5⟩ := zc6 BK307) | ((with_reducible refine gate_callee (f := 45) rfl ?_); refine gl (some 5) Try.func45 #[.int .i64 a0_0, .int .i64 0, .int .i64 15] ?_; (with_reducible refine (impl_in.calls a0_0 0 15 true _ A2.out).mono ?_); rintro e w' ⟨rfl, ⟨nd, rfl⟩⟩; refine ⟨_, rfl, ?_⟩) | (go_at_call 45; (with_reducible refine (impl_in.calls a0_1 0 15 true _ A4.out).mono ?_); rintro e w' ⟨rfl, ⟨nd, rfl⟩⟩))
     go_ret
     exact ⟨re, bq⟩
   ·rw [if_neg c6] at H
    have c6b0 : decide (0 ≤ a0_2) = false := decide_eq_false c6
    clear c6
    obtain rfl := Option.some.inj H
    go_enter Try.func46, Try.ntmps46
    go_wp2_with (first | ((with_reducible refine gate_dst (N := 1) rfl ?_); refine be 1 #[.int .i64 a0_0, .int .i64 a0_1, .int .i64 a0_2, .int .i64 a0_3, .int .i64 a0_4, .int .i64 a0_5] 45 ?_; intro gb307 hg w21 hbox hb; have _ := bs hb; have _ := ra (hbox); have _ := bz (w0 := w) hg; have _ := bz (w0 := w) hg; clear HB; rename_i HB BK307 GW307 GE307; clear hb hbox hg; obtain ⟨hcz22_0, hcz22_1, hcz22_2, hcz22_3, hcz22_4, hcz22_5, hfz22_0, hfz22_1, hfz22_2, hfz22_3, hfz22_4, hfz22_5⟩ := zc6 BK307) | ((with_reducible refine gate_callee (f := 45) rfl ?_); refine gl (some 5) Try.func45 #[.int .i64 a0_0, .int .i64 0, .int .i64 15] ?_; (with_reducible refine (impl_in.calls a0_0 0 15 true _ A2.out).mono ?_); rintro e w' ⟨rfl, ⟨nd, rfl⟩⟩; refine ⟨_, rfl, ?_⟩) | (go_at_call 45; (with_reducible refine (impl_in.calls a0_1 0 15 true _ A4.out).mono ?_); rintro e w' ⟨rfl, ⟨nd, rfl⟩⟩))
    go_ret
    exact ⟨re, bq⟩
  ·replace c5 := Bool.eq_false_iff.mpr c5
   subst c5
   have H1 : (some false) = some r := by rw [if_neg (show ¬ (false = true) by decide)] at H; exact H
   clear H
   have H := H1
   clear H1
   obtain rfl := Option.some.inj H
   go_enter Try.func46, Try.ntmps46
   go_wp2_with (first | ((with_reducible refine gate_dst (N := 1) rfl ?_); refine be 1 #[.int .i64 a0_0, .int .i64 a0_1, .int .i64 a0_2, .int .i64 a0_3, .int .i64 a0_4, .int .i64 a0_5] 45 ?_; intro gb307 hg w23 hbox hb; have _ := bs hb; have _ := ra (hbox); have _ := bz (w0 := w) hg; have _ := bz (w0 := w) hg; clear HB; rename_i HB BK307 GW307 GE307; clear hb hbox hg; obtain ⟨hcz24_0, hcz24_1, hcz24_2, hcz24_3, hcz24_4, hcz24_5, hfz24_0, hfz24_1, hfz24_2, hfz24_3, hfz24_4, hfz24_5⟩ := zc6 BK307) | ((with_reducible refine gate_callee (f := 45) rfl ?_); refine gl (some 5) Try.func45 #[.int .i64 a0_0, .int .i64 0, .int .i64 15] ?_; (with_reducible refine (impl_in.calls a0_0 0 15 true _ A2.out).mono ?_); rintro e w' ⟨rfl, ⟨nd, rfl⟩⟩; refine ⟨_, rfl, ?_⟩) | (go_at_call 45; (with_reducible refine (impl_in.calls a0_1 0 15 false _ A4.out).mono ?_); rintro e w' ⟨rfl, ⟨nd, rfl⟩⟩))
   go_ret
   exact ⟨re, bq⟩
 ·replace c3 := Bool.eq_false_iff.mpr c3
  subst c3
  have H1 : (some false) = some r := by rw [if_neg (show ¬ (false = true) by decide)] at H; exact H
  clear H
  have H := H1
  clear H1
  obtain rfl := Option.some.inj H
  go_enter Try.func46, Try.ntmps46
  go_wp2_with (first | ((with_reducible refine gate_dst (N := 1) rfl ?_); refine be 1 #[.int .i64 a0_0, .int .i64 a0_1, .int .i64 a0_2, .int .i64 a0_3, .int .i64 a0_4, .int .i64 a0_5] 45 ?_; intro gb307 hg w25 hbox hb; have _ := bs hb; have _ := ra (hbox); have _ := bz (w0 := w) hg; have _ := bz (w0 := w) hg; clear HB; rename_i HB BK307 GW307 GE307; clear hb hbox hg; obtain ⟨hcz26_0, hcz26_1, hcz26_2, hcz26_3, hcz26_4, hcz26_5, hfz26_0, hfz26_1, hfz26_2, hfz26_3, hfz26_4, hfz26_5⟩ := zc6 BK307) | ((with_reducible refine gate_callee (f := 45) rfl ?_); refine gl (some 5) Try.func45 #[.int .i64 a0_0, .int .i64 0, .int .i64 15] ?_; (with_reducible refine (impl_in.calls a0_0 0 15 false _ A2.out).mono ?_); rintro e w' ⟨rfl, ⟨nd, rfl⟩⟩; refine ⟨_, rfl, ?_⟩))
  go_ret
  exact ⟨re, bq⟩
set_option maxHeartbeats 8000000 in
set_option maxRecDepth 100000 in
theorem impl_ProbeTubeOk.calls (k : Nat) (a0_0 : ByteArray) (A0_1 : Option Addr) (c0_1 : Nat) (l0_1 : List (S45)) (r : Bool) (w : World) (hr0_1 : Kd.C k45 w A0_1 l0_1.length l0_1) (hc0_1 : l0_1.length ≤ c0_1) (h : impl_ProbeTubeOk.f k a0_0 l0_1 = some r) :
  Calls Try.prog 31 #[.agg #[.string a0_0, .slice A0_1 l0_1.length c0_1]] w fun e w' => e = .returned (.bool r) ∧ Below w.heap.size w w' := by
 have hu42 := Try.underlying42
 have hu45 := Try.underlying45
 have HR0_1 := Aside0.mk hr0_1
 have HC0_1 := Aside0.mk hc0_1
 clear hr0_1 hc0_1
 have HB := ra (Below.refl w.heap.size w)
 have H : ((impl_in.f (a0_0.size : Int) 1 8).bind fun t311 => (if t311 = true then (impl_ProbeTubeOk.j0 k (decide ((l0_1.length : Int) > 40)) a0_0 l0_1) else (impl_ProbeTubeOk.j0 k true a0_0 l0_1))) = some r := h
 clear h
 have HC2 := Aside0.mk H
 clear H
 go_enter Try.func31, Try.ntmps31
 go_upto_region 1 with (first | ((with_reducible refine gate_dst (N := 1) rfl ?_); (try (refine gate_guard (by rfl) ?_; dsimp only)); refine be 1 #[.string a0_0, .slice A0_1 l0_1.length c0_1] 42 ?_; intro gb310 hg w3 hbox hb; have _ := bs hb; have _ := ra (hbox); have _ := bz (w0 := w) hg; have _ := bz (w0 := w) hg; clear HB; rename_i HB BK310 GW310 GE310; clear hb hbox hg))
 (try simp only [Act.put, List.setIfInBounds_toArray, List.set_cons_zero, List.set_cons_succ])
 go_cut [17] (fun v17 wc => ∃ (kq : Nat) (x17_1 : Bool), v17 = .bool x17_1 ∧ Aside0 (impl_ProbeTubeOk.j0 kq x17_1 a0_0 l0_1 = some r) ∧ Aside0 (kq ≤ k) ∧ Aside0 (wc.heap[gb310]? = some (.cells #[.string a0_0, (.slice A0_1 l0_1.length c0_1)] 42 (0, 0))) ∧ Aside0 (Below w.heap.size w wc))
 case first =>
  have H := HC2.out
  clear HC2
  obtain ⟨t311, A4, H⟩ := bo H
  by_cases c5 : t311 = true
  ·subst c5
   replace H := it H rfl
   have H' := Aside0.mk H
   clear H
   obtain ⟨hcz6_0, hcz6_1, hfz6_0, hfz6_1⟩ := zc2 BK310
   go_wp2_with (first | ((with_reducible refine gate_callee (f := 45) rfl ?_); refine gl (some 10) Try.func45 #[.int .i64 (a0_0.size : Int), .int .i64 1, .int .i64 8] ?_; (with_reducible refine (impl_in.calls (a0_0.size : Int) 1 8 true _ A4.out).mono ?_); rintro e w' ⟨rfl, ⟨nd, rfl⟩⟩; refine ⟨_, rfl, ?_⟩))
   go_meet
   case rel => exact ⟨_, (decide ((l0_1.length : Int) > 40)), rs, H', ⟨by first | omega | exact Nat.le_refl _⟩, ⟨bk BK310⟩, ⟨bq⟩⟩
  ·replace c5 := Bool.eq_false_iff.mpr c5
   subst c5
   have H1 : (impl_ProbeTubeOk.j0 k true a0_0 l0_1) = some r := by rw [if_neg (show ¬ (false = true) by decide)] at H; exact H
   clear H
   have H := H1
   clear H1
   have H' := Aside0.mk H
   clear H
   obtain ⟨hcz7_0, hcz7_1, hfz7_0, hfz7_1⟩ := zc2 BK310
   go_wp2_with (first | ((with_reducible refine gate_callee (f := 45) rfl ?_); refine gl (some 10) Try.func45 #[.int .i64 (a0_0.size : Int), .int .i64 1, .int .i64 8] ?_; (with_reducible refine (impl_in.calls (a0_0.size : Int) 1 8 false _ A4.out).mono ?_); rintro e w' ⟨rfl, ⟨nd, rfl⟩⟩; refine ⟨_, rfl, ?_⟩))
   go_meet
   case rel => exact ⟨_, (true), rs, H', ⟨by first | omega | exact Nat.le_refl _⟩, ⟨bk BK310⟩, ⟨bq⟩⟩
 case rest =>
  clear HC2
  try clear c5
  try clear hcz6_0
  try clear hcz6_1
  try clear hcz7_0
  try clear hcz7_1
  try clear hfz6_0
  try clear hfz6_1
  try clear hfz7_0
  try clear hfz7_1
  obtain ⟨kq, x17_1, rfl, HA, HJ1, BK310, HB⟩ := hcut
  cases kq with
  | zero => exact absurd HA.out (by simp [impl_ProbeTubeOk.j0])
  | succ kj1 =>
   have H := HA.out
   clear HA
   simp only [impl_ProbeTubeOk.j0] at H
   by_cases c8 : x17_1 = true
   ·subst c8
    replace H := it H rfl
    obtain rfl := Option.some.inj H
    go_wp2
    go_ret
    exact ⟨re, bq⟩
   ·replace c8 := Bool.eq_false_iff.mpr c8
    subst c8
    have H1 : (impl_ProbeTubeOk.l0 kj1 0 a0_0 l0_1) = some r := by rw [if_neg (show ¬ (false = true) by decide)] at H; exact H
    clear H
    have H := H1
    clear H1
    have H' := Aside0.mk H
    clear H
    go_wp2
    go_loopg [3] kj1 (fun kq v3 w' => ∃ (x3_2 : Int), v3 = .int .i64 x3_2 ∧ Aside0 (impl_ProbeTubeOk.l0 kq x3_2 a0_0 l0_1 = some r) ∧ Aside0 (kq ≤ kj1) ∧ Aside0 (w'.heap[gb310]? = some (.cells #[.string a0_0, (.slice A0_1 l0_1.length c0_1)] 42 (0, 0))) ∧ Aside0 (Below w.heap.size w w'))
    case atStart => exact ⟨(0), rs, H', ⟨Nat.le_refl _⟩, ⟨bk BK310⟩, ⟨bq⟩⟩
    case round =>
     clear H'
     try clear c5
     try clear c8
     try clear hcz6_0
     try clear hcz6_1
     try clear hcz7_0
     try clear hcz7_1
     try clear hfz6_0
     try clear hfz6_1
     try clear hfz7_0
     try clear hfz7_1
     obtain ⟨x3_2, rfl, HA, HK2, BK310, HB⟩ := hrel
     cases gk with
     | zero => exact absurd HA.out (by simp [impl_ProbeTubeOk.l0])
     | succ k2 =>
      have H := HA.out
      clear HA
      simp only [impl_ProbeTubeOk.l0] at H
      by_cases c9 : x3_2 < (a0_0.size : Int)
      ·rw [if_pos c9] at H
       have c9b0 : decide (x3_2 < (a0_0.size : Int)) = true := decide_eq_true c9
       clear c9
       by_cases c10 : 0 ≤ x3_2
       ·rw [if_pos c10] at H
        have c10b0 : decide (0 ≤ x3_2) = true := decide_eq_true c10
        clear c10
        by_cases c12 : (bt a0_0 x3_2) ≥ 97
        ·rw [if_pos c12] at H
         have c12b0 : decide (97 ≤ (bt a0_0 x3_2)) = true := decide_eq_true c12
         clear c12
         by_cases c13 : (bt a0_0 x3_2) ≤ 122
         ·rw [if_pos c13] at H
          have c13b0 : decide ((bt a0_0 x3_2) ≤ 122) = true := decide_eq_true c13
          clear c13
          have H' := Aside0.mk H
          clear H
          obtain ⟨hcz14_0, hcz14_1, hfz14_0, hfz14_1⟩ := zc2 BK310
          have p11 : 0 ≤ (x3_2 : Int) := od
          have q11 : x3_2 < (a0_0.size : Int) := od
          have hx11 := bt_at a0_0 x3_2
          replace p11 := eq_true p11
          replace q11 := eq_true q11
          go_wp2
          go_roundg k2
          case measure => have := HJ1.out; have := HK2.out; omega
          case rel => exact ⟨(wrap64 (x3_2 + 1)), rs, H', ⟨by have := HJ1.out; have := HK2.out; omega⟩, ⟨bk BK310⟩, ⟨bq⟩⟩
         ·rw [if_neg c13] at H
          have c13b0 : decide ((bt a0_0 x3_2) ≤ 122) = false := decide_eq_false c13
          clear c13
          by_cases c15 : (bt a0_0 x3_2) ≥ 48
          ·rw [if_pos c15] at H
           have c15b0 : decide (48 ≤ (bt a0_0 x3_2)) = true := decide_eq_true c15
           clear c15
           by_cases c16 : (bt a0_0 x3_2) ≤ 57
           ·rw [if_pos c16] at H
            have c16b0 : decide ((bt a0_0 x3_2) ≤ 57) = true := decide_eq_true c16
            clear c16
            have H' := Aside0.mk H
            clear H
            obtain ⟨hcz17_0, hcz17_1, hfz17_0, hfz17_1⟩ := zc2 BK310
            have p11 : 0 ≤ (x3_2 : Int) := od
            have q11 : x3_2 < (a0_0.size : Int) := od
            have hx11 := bt_at a0_0 x3_2
            replace p11 := eq_true p11
            replace q11 := eq_true q11
            go_wp2
            go_roundg k2
            case measure => have := HJ1.out; have := HK2.out; omega
            case rel => exact ⟨(wrap64 (x3_2 + 1)), rs, H', ⟨by have := HJ1.out; have := HK2.out; omega⟩, ⟨bk BK310⟩, ⟨bq⟩⟩
           ·rw [if_neg c16] at H
            have c16b0 : decide ((bt a0_0 x3_2) ≤ 57) = false := decide_eq_false c16
            clear c16
            by_cases c18 : ((bt a0_0 x3_2) = 45)
            ·rw [if_pos c18] at H
             have c18b0 : ((bt a0_0 x3_2) == 45) = true := beq_iff_eq.mpr c18
             have c18b1 : ((bt a0_0 x3_2) != 45) = false := bne_eq_false_iff_eq.mpr c18
             clear c18
             have H' := Aside0.mk H
             clear H
             obtain ⟨hcz19_0, hcz19_1, hfz19_0, hfz19_1⟩ := zc2 BK310
             have p11 : 0 ≤ (x3_2 : Int) := od
             have q11 : x3_2 < (a0_0.size : Int) := od
             have hx11 := bt_at a0_0 x3_2
             replace p11 := eq_true p11
             replace q11 := eq_true q11
             go_wp2
             go_roundg k2
             case measure => have := HJ1.out; have := HK2.out; omega
             case rel => exact ⟨(wrap64 (x3_2 + 1)), rs, H', ⟨by have := HJ1.out; have := HK2.out; omega⟩, ⟨bk BK310⟩, ⟨bq⟩⟩
            ·rw [if_neg c18] at H
             have c18b0 : ((bt a0_0 x3_2) == 45) = false := beq_eq_false_iff_ne.mpr c18
             have c18b1 : ((bt a0_0 x3_2) != 45) = true := bne_iff_ne.mpr c18
             obtain rfl := Option.some.inj H
             obtain ⟨hcz20_0, hcz20_1, hfz20_0, hfz20_1⟩ := zc2 BK310
             have p11 : 0 ≤ (x3_2 : Int) := od
             have q11 : x3_2 < (a0_0.size : Int) := od
             have hx11 := bt_at a0_0 x3_2
             replace p11 := eq_true p11
             replace q11 := eq_true q11
             go_wp2
             go_ret
             exact ⟨re, bq⟩
          ·rw [if_neg c15] at H
           have c15b0 : decide (48 ≤ (bt a0_0 x3_2)) = false := decide_eq_false c15
           clear c15
           by_cases c21 : ((bt a0_0 x3_2) = 45)
           ·rw [if_pos c21] at H
            have c21b0 : ((bt a0_0 x3_2) == 45) = true := beq_iff_eq.mpr c21
            have c21b1 : ((bt a0_0 x3_2) != 45) = false := bne_eq_false_iff_eq.mpr c21
            clear c21
            have H' := Aside0.mk H
            clear H
            obtain ⟨hcz22_0, hcz22_1, hfz22_0, hfz22_1⟩ := zc2 BK310
            have p11 : 0 ≤ (x3_2 : Int) := od
            have q11 : x3_2 < (a0_0.size : Int) := od
            have hx11 := bt_at a0_0 x3_2
            replace p11 := eq_true p11
            replace q11 := eq_true q11
            go_wp2
            go_roundg k2
            case measure => have := HJ1.out; have := HK2.out; omega
            case rel => exact ⟨(wrap64 (x3_2 + 1)), rs, H', ⟨by have := HJ1.out; have := HK2.out; omega⟩, ⟨bk BK310⟩, ⟨bq⟩⟩
           ·rw [if_neg c21] at H
            have c21b0 : ((bt a0_0 x3_2) == 45) = false := beq_eq_false_iff_ne.mpr c21
            have c21b1 : ((bt a0_0 x3_2) != 45) = true := bne_iff_ne.mpr c21
            obtain rfl := Option.some.inj H
            obtain ⟨hcz23_0, hcz23_1, hfz23_0, hfz23_1⟩ := zc2 BK310
            have p11 : 0 ≤ (x3_2 : Int) := od
            have q11 : x3_2 < (a0_0.size : Int) := od
            have hx11 := bt_at a0_0 x3_2
            replace p11 := eq_true p11
            replace q11 := eq_true q11
            go_wp2
            go_ret
            exact ⟨re, bq⟩
        ·rw [if_neg c12] at H
         have c12b0 : decide (97 ≤ (bt a0_0 x3_2)) = false := decide_eq_false c12
         clear c12
         by_cases c24 : (bt a0_0 x3_2) ≥ 48
         ·rw [if_pos c24] at H
          have c24b0 : decide (48 ≤ (bt a0_0 x3_2)) = true := decide_eq_true c24
          clear c24
          by_cases c25 : (bt a0_0 x3_2) ≤ 57
          ·rw [if_pos c25] at H
           have c25b0 : decide ((bt a0_0 x3_2) ≤ 57) = true := decide_eq_true c25
           clear c25
           have H' := Aside0.mk H
           clear H
           obtain ⟨hcz26_0, hcz26_1, hfz26_0, hfz26_1⟩ := zc2 BK310
           have p11 : 0 ≤ (x3_2 : Int) := od
           have q11 : x3_2 < (a0_0.size : Int) := od
           have hx11 := bt_at a0_0 x3_2
           replace p11 := eq_true p11
           replace q11 := eq_true q11
           go_wp2
           go_roundg k2
           case measure => have := HJ1.out; have := HK2.out; omega
           case rel => exact ⟨(wrap64 (x3_2 + 1)), rs, H', ⟨by have := HJ1.out; have := HK2.out; omega⟩, ⟨bk BK310⟩, ⟨bq⟩⟩
          ·rw [if_neg c25] at H
           have c25b0 : decide ((bt a0_0 x3_2) ≤ 57) = false := decide_eq_false c25
           clear c25
           by_cases c27 : ((bt a0_0 x3_2) = 45)
           ·rw [if_pos c27] at H
            have c27b0 : ((bt a0_0 x3_2) == 45) = true := beq_iff_eq.mpr c27
            have c27b1 : ((bt a0_0 x3_2) != 45) = false := bne_eq_false_iff_eq.mpr c27
            clear c27
            have H' := Aside0.mk H
            clear H
            obtain ⟨hcz28_0, hcz28_1, hfz28_0, hfz28_1⟩ := zc2 BK310
            have p11 : 0 ≤ (x3_2 : Int) := od
            have q11 : x3_2 < (a0_0.size : Int) := od
            have hx11 := bt_at a0_0 x3_2
            replace p11 := eq_true p11
            replace q11 := eq_true q11
            go_wp2
            go_roundg k2
            case measure => have := HJ1.out; have := HK2.out; omega
            case rel => exact ⟨(wrap64 (x3_2 + 1)), rs, H', ⟨by have := HJ1.out; have := HK2.out; omega⟩, ⟨bk BK310⟩, ⟨bq⟩⟩
           ·rw [if_neg c27] at H
            have c27b0 : ((bt a0_0 x3_2) == 45) = false := beq_eq_false_iff_ne.mpr c27
            have c27b1 : ((bt a0_0 x3_2) != 45) = true := bne_iff_ne.mpr c27
            obtain rfl := Option.some.inj H
            obtain ⟨hcz29_0, hcz29_1, hfz29_0, hfz29_1⟩ := zc2 BK310
            have p11 : 0 ≤ (x3_2 : Int) := od
            have q11 : x3_2 < (a0_0.size : Int) := od
            have hx11 := bt_at a0_0 x3_2
            replace p11 := eq_true p11
            replace q11 := eq_true q11
            go_wp2
            go_ret
            exact ⟨re, bq⟩
         ·rw [if_neg c24] at H
          have c24b0 : decide (48 ≤ (bt a0_0 x3_2)) = false := decide_eq_false c24
          clear c24
          by_cases c30 : ((bt a0_0 x3_2) = 45)
          ·rw [if_pos c30] at H
           have c30b0 : ((bt a0_0 x3_2) == 45) = true := beq_iff_eq.mpr c30
           have c30b1 : ((bt a0_0 x3_2) != 45) = false := bne_eq_false_iff_eq.mpr c30
           clear c30
           have H' := Aside0.mk H
           clear H
           obtain ⟨hcz31_0, hcz31_1, hfz31_0, hfz31_1⟩ := zc2 BK310
           have p11 : 0 ≤ (x3_2 : Int) := od
           have q11 : x3_2 < (a0_0.size : Int) := od
           have hx11 := bt_at a0_0 x3_2
           replace p11 := eq_true p11
           replace q11 := eq_true q11
           go_wp2
           go_roundg k2
           case measure => have := HJ1.out; have := HK2.out; omega
           case rel => exact ⟨(wrap64 (x3_2 + 1)), rs, H', ⟨by have := HJ1.out; have := HK2.out; omega⟩, ⟨bk BK310⟩, ⟨bq⟩⟩
          ·rw [if_neg c30] at H
           have c30b0 : ((bt a0_0 x3_2) == 45) = false := beq_eq_false_iff_ne.mpr c30
           have c30b1 : ((bt a0_0 x3_2) != 45) = true := bne_iff_ne.mpr c30
           obtain rfl := Option.some.inj H
           obtain ⟨hcz32_0, hcz32_1, hfz32_0, hfz32_1⟩ := zc2 BK310
           have p11 : 0 ≤ (x3_2 : Int) := od
           have q11 : x3_2 < (a0_0.size : Int) := od
           have hx11 := bt_at a0_0 x3_2
           replace p11 := eq_true p11
           replace q11 := eq_true q11
           go_wp2
           go_ret
           exact ⟨re, bq⟩
       ·rw [if_neg c10] at H
        exact absurd H (by simp)
      ·rw [if_neg c9] at H
       have c9b0 : decide (x3_2 < (a0_0.size : Int)) = false := decide_eq_false c9
       clear c9
       have H' := Aside0.mk H
       clear H
       obtain ⟨hcz33_0, hcz33_1, hfz33_0, hfz33_1⟩ := zc2 BK310
       go_wp2
       go_loopg [51] k2 (fun kq v51 w' => ∃ (x51_3 : Int), v51 = .int .i64 x51_3 ∧ Aside0 (impl_ProbeTubeOk.l1 kq l0_1 (l0_1.length : Int) x51_3 = some r) ∧ Aside0 (kq ≤ k2) ∧ Aside0 (w'.heap[gb310]? = some (.cells #[.string a0_0, (.slice A0_1 l0_1.length c0_1)] 42 (0, 0))) ∧ Aside0 (Below w.heap.size w w'))
       case atStart => exact ⟨(0), rs, H', ⟨Nat.le_refl _⟩, ⟨bk BK310⟩, ⟨bq⟩⟩
       case round =>
        clear H'
        try clear c5
        try clear c8
        try clear c9
        try clear c9b0
        try clear c10
        try clear c10b0
        try clear p11
        try clear q11
        try clear hx11
        try clear c12
        try clear c12b0
        try clear c13
        try clear c13b0
        try clear c15
        try clear c15b0
        try clear c16
        try clear c16b0
        try clear c18
        try clear c18b0
        try clear c18b1
        try clear c21
        try clear c21b0
        try clear c21b1
        try clear c24
        try clear c24b0
        try clear c25
        try clear c25b0
        try clear c27
        try clear c27b0
        try clear c27b1
        try clear c30
        try clear c30b0
        try clear c30b1
        try clear hcz14_0
        try clear hcz14_1
        try clear hcz17_0
        try clear hcz17_1
        try clear hcz19_0
        try clear hcz19_1
        try clear hcz20_0
        try clear hcz20_1
        try clear hcz22_0
        try clear hcz22_1
        try clear hcz23_0
        try clear hcz23_1
        try clear hcz26_0
        try clear hcz26_1
        try clear hcz28_0
        try clear hcz28_1
        try clear hcz29_0
        try clear hcz29_1
        try clear hcz31_0
        try clear hcz31_1
        try clear hcz32_0
        try clear hcz32_1
        try clear hcz33_0
        try clear hcz33_1
        try clear hcz6_0
        try clear hcz6_1
        try clear hcz7_0
        try clear hcz7_1
        try clear hfz14_0
        try clear hfz14_1
        try clear hfz17_0
        try clear hfz17_1
        try clear hfz19_0
        try clear hfz19_1
        try clear hfz20_0
        try clear hfz20_1
        try clear hfz22_0
        try clear hfz22_1
        try clear hfz23_0
        try clear hfz23_1
        try clear hfz26_0
        try clear hfz26_1
        try clear hfz28_0
        try clear hfz28_1
        try clear hfz29_0
        try clear hfz29_1
        try clear hfz31_0
        try clear hfz31_1
        try clear hfz32_0
        try clear hfz32_1
        try clear hfz33_0
        try clear hfz33_1
        try clear hfz6_0
        try clear hfz6_1
        try clear hfz7_0
        try clear hfz7_1
        try clear p11
        try clear q11
        obtain ⟨x51_3, rfl, HA, HK3, BK310, HB⟩ := hrel
        cases gk with
        | zero => exact absurd HA.out (by simp [impl_ProbeTubeOk.l1])
        | succ k3 =>
         have H := HA.out
         clear HA
         simp only [impl_ProbeTubeOk.l1] at H
         by_cases c34 : x51_3 < (l0_1.length : Int)
         ·rw [if_pos c34] at H
          have c34b0 : decide (x51_3 < (l0_1.length : Int)) = true := decide_eq_true c34
          clear c34
          by_cases c35 : 0 ≤ x51_3
          ·rw [if_pos c35] at H
           have c35b0 : decide (0 ≤ x51_3) = true := decide_eq_true c35
           clear c35
           by_cases c36 : x51_3 < (l0_1.length : Int)
           ·rw [if_pos c36] at H
            have c36b0 : decide (x51_3 < (l0_1.length : Int)) = true := decide_eq_true c36
            clear c36
            obtain ⟨t314, A37, H⟩ := bo H
            by_cases c38 : t314 = true
            ·subst c38
             replace H := it H rfl
             have H' := Aside0.mk H
             clear H
             have p312 : 0 ≤ (x51_3 : Int) := od
             have q312 : x51_3 < (l0_1.length : Int) := od
             obtain ⟨ad312, e312, hx312_0, hx312_1, hx312_2, hx312_3, hx312_4, hx312_5⟩ := at_T45 HR0_1.out x51_3 p312 q312
             cases e312
             replace hx312_0 := hc HB hx312_0
             replace hx312_1 := hc HB hx312_1
             replace hx312_2 := hc HB hx312_2
             replace hx312_3 := hc HB hx312_3
             replace hx312_4 := hc HB hx312_4
             replace hx312_5 := hc HB hx312_5
             replace p312 := eq_true p312
             replace q312 := eq_true q312
             go_wp2_with (first | ((with_reducible refine gate_dst (N := 6) rfl ?_); (try (refine gate_guard (by rfl) ?_; dsimp only)); refine be 6 #[.int .i64 0, .int .i64 0, .int .i64 0, .int .i64 0, .int .i64 0, .int .i64 0] 45 ?_; intro gb313 hg w39 hbox hb; have _ := bb (bk BK310) hb; have _ := bs hb; have _ := ra (hbox); have _ := bz (w0 := w) hg; have _ := bz (w0 := w) hg; have _ := bn hg (bk BK310); have _ := bm hg (bk BK310); clear BK310 HB; rename_i BK310 HB BK313 GW313 GE313 NB310_313 NB313_310; clear hb hbox hg; have hnb40 := NB313_310.out; have hnc40 := NB310_313.out; obtain ⟨hcz41_0, hcz41_1, hcz41_2, hcz41_3, hcz41_4, hcz41_5, hfz41_0, hfz41_1, hfz41_2, hfz41_3, hfz41_4, hfz41_5⟩ := zc6 BK313) | ((with_reducible refine gate_callee (f := 46) rfl ?_); refine gl (some 56) Try.func46 #[.agg #[.int .i64 ((rd_T45 l0_1 x51_3).f0), .int .i64 ((rd_T45 l0_1 x51_3).f1), .int .i64 ((rd_T45 l0_1 x51_3).f2), .int .i64 ((rd_T45 l0_1 x51_3).f3), .int .i64 ((rd_T45 l0_1 x51_3).f4), .int .i64 ((rd_T45 l0_1 x51_3).f5)]] ?_; (with_reducible refine (impl_ProbeBoxOk.calls ((rd_T45 l0_1 x51_3).f0) ((rd_T45 l0_1 x51_3).f1) ((rd_T45 l0_1 x51_3).f2) ((rd_T45 l0_1 x51_3).f3) ((rd_T45 l0_1 x51_3).f4) ((rd_T45 l0_1 x51_3).f5) true _ A37.out).mono ?_); rintro e w42 ⟨rfl, hb⟩; refine ⟨_, rfl, ?_⟩; have _ := bb (bk BK310) hb; have _ := bb (o := .cells #[.int .i64 ((rd_T45 l0_1 x51_3).f0), .int .i64 ((rd_T45 l0_1 x51_3).f1), .int .i64 ((rd_T45 l0_1 x51_3).f2), .int .i64 ((rd_T45 l0_1 x51_3).f3), .int .i64 ((rd_T45 l0_1 x51_3).f4), .int .i64 ((rd_T45 l0_1 x51_3).f5)] 45 (0, 0)) (bp BK313) hb; have _ := bs hb; clear BK310 BK313 HB; rename_i BK310 BK313 HB; (try clear hb); (try clear hb2); (try clear hk); (try clear hi)))
             go_roundg k3
             case measure => have := HJ1.out; have := HK2.out; have := HK3.out; omega
             case rel => exact ⟨(wrap64 (x51_3 + 1)), rs, H', ⟨by have := HJ1.out; have := HK2.out; have := HK3.out; omega⟩, ⟨bk BK310⟩, ⟨bq⟩⟩
            ·replace c38 := Bool.eq_false_iff.mpr c38
             subst c38
             have H1 : (some false) = some r := by rw [if_neg (show ¬ (false = true) by decide)] at H; exact H
             clear H
             have H := H1
             clear H1
             obtain rfl := Option.some.inj H
             have p312 : 0 ≤ (x51_3 : Int) := od
             have q312 : x51_3 < (l0_1.length : Int) := od
             obtain ⟨ad312, e312, hx312_0, hx312_1, hx312_2, hx312_3, hx312_4, hx312_5⟩ := at_T45 HR0_1.out x51_3 p312 q312
             cases e312
             replace hx312_0 := hc HB hx312_0
             replace hx312_1 := hc HB hx312_1
             replace hx312_2 := hc HB hx312_2
             replace hx312_3 := hc HB hx312_3
             replace hx312_4 := hc HB hx312_4
             replace hx312_5 := hc HB hx312_5
             replace p312 := eq_true p312
             replace q312 := eq_true q312
             go_wp2_with (first | ((with_reducible refine gate_dst (N := 6) rfl ?_); (try (refine gate_guard (by rfl) ?_; dsimp only)); refine be 6 #[.int .i64 0, .int .i64 0, .int .i64 0, .int .i64 0, .int .i64 0, .int .i64 0] 45 ?_; intro gb313 hg w43 hbox hb; have _ := bb (bk BK310) hb; have _ := bs hb; have _ := ra (hbox); have _ := bz (w0 := w) hg; have _ := bz (w0 := w) hg; have _ := bn hg (bk BK310); have _ := bm hg (bk BK310); clear BK310 HB; rename_i BK310 HB BK313 GW313 GE313 NB310_313 NB313_310; clear hb hbox hg; have hnb44 := NB313_310.out; have hnc44 := NB310_313.out; obtain ⟨hcz45_0, hcz45_1, hcz45_2, hcz45_3, hcz45_4, hcz45_5, hfz45_0, hfz45_1, hfz45_2, hfz45_3, hfz45_4, hfz45_5⟩ := zc6 BK313) | ((with_reducible refine gate_callee (f := 46) rfl ?_); refine gl (some 56) Try.func46 #[.agg #[.int .i64 ((rd_T45 l0_1 x51_3).f0), .int .i64 ((rd_T45 l0_1 x51_3).f1), .int .i64 ((rd_T45 l0_1 x51_3).f2), .int .i64 ((rd_T45 l0_1 x51_3).f3), .int .i64 ((rd_T45 l0_1 x51_3).f4), .int .i64 ((rd_T45 l0_1 x51_3).f5)]] ?_; (with_reducible refine (impl_ProbeBoxOk.calls ((rd_T45 l0_1 x51_3).f0) ((rd_T45 l0_1 x51_3).f1) ((rd_T45 l0_1 x51_3).f2) ((rd_T45 l0_1 x51_3).f3) ((rd_T45 l0_1 x51_3).f4) ((rd_T45 l0_1 x51_3).f5) false _ A37.out).mono ?_); rintro e w46 ⟨rfl, hb⟩; refine ⟨_, rfl, ?_⟩; have _ := bb (bk BK310) hb; have _ := bb (o := .cells #[.int .i64 ((rd_T45 l0_1 x51_3).f0), .int .i64 ((rd_T45 l0_1 x51_3).f1), .int .i64 ((rd_T45 l0_1 x51_3).f2), .int .i64 ((rd_T45 l0_1 x51_3).f3), .int .i64 ((rd_T45 l0_1 x51_3).f4), .int .i64 ((rd_T45 l0_1 x51_3).f5)] 45 (0, 0)) (bp BK313) hb; have _ := bs hb; clear BK310 BK313 HB; rename_i BK310 BK313 HB; (try clear hb); (try clear hb2); (try clear hk); (try clear hi)))
             go_ret
             exact ⟨re, bq⟩
           ·rw [if_neg c36] at H
            exact absurd H (by simp)
          ·rw [if_neg c35] at H
           exact absurd H (by simp)
         ·rw [if_neg c34] at H
          have c34b0 : decide (x51_3 < (l0_1.length : Int)) = false := decide_eq_false c34
          clear c34
          obtain rfl := Option.some.inj H
          go_wp2
          go_ret
          exact ⟨re, bq⟩
def spec_ProbeSkyOk.T6 : Bool × List (List Nat × List Nat) := (true, [([], []), ([], []), ([0, 1], [0, 1]), ([2], [2]), ([3], [3]), ([4], [4]), ([5, 4], [5]), ([6], [6]), ([7, 6], [6, 7]), ([8, 6, 6], [6, 8]), ([9], [9]), ([9], [9]), ([11, 9], [9, 11]), ([10, 12, 9], [9, 10, 12]), ([13, 9], [9, 13]), ([14, 9], [9, 14]), ([9], [9]), ([9], [9]), ([16, 17, 9], [9, 16, 17]), ([18, 9], [9, 18]), ([19, 9], [9, 19]), ([15, 20, 9], [9, 15, 20]), ([9, 21, 6], [6, 9, 21]), ([6, 22], [6, 22])])
def spec_ProbeSkyOk.B6 : List Nat := [0, 0, 3, 7, 15, 31, 63, 127, 255, 511, 1023, 1023, 3071, 8191, 16383, 32767, 1023, 1023, 197631, 459775, 984063, 2097151, 4194303, 8388607]
theorem spec_ProbeSkyOk.tab6 : rtab .any (opsOf Try.f14 6) = spec_ProbeSkyOk.T6 := by kernel_rfl
theorem spec_ProbeSkyOk.bits6 : waitsOk spec_ProbeSkyOk.T6.2 spec_ProbeSkyOk.B6 = true := by kernel_rfl
set_option maxHeartbeats 8000000 in
set_option maxRecDepth 100000 in
theorem spec_ProbeSkyOk.calls (k : Nat) (A0 : Option Addr) (c0 : Nat) (l0 : List (S42)) (r : Bool) (w : World) (hr0 : Kd.C k42 w A0 l0.length l0) (hc0 : l0.length ≤ c0) (h : spec_ProbeSkyOk.f k l0 = some r) :
  Calls Try.prog 14 #[.slice A0 l0.length c0] w fun e w' => e = .returned (.bool r) ∧ Below w.heap.size w w' := by
 have hu42 := Try.underlying42
 have HR0 := Aside0.mk hr0
 have HC0 := Aside0.mk hc0
 clear hr0 hc0
 have HB := ra (Below.refl w.heap.size w)
 have H : (if (l0.length : Int) > 24 then (some false) else (spec_ProbeSkyOk.l0 k l0 0)) = some r := h
 clear h
 by_cases c2 : (l0.length : Int) > 24
 ·rw [if_pos c2] at H
  have c2b0 : decide (24 < (l0.length : Int)) = true := decide_eq_true c2
  have c2b1 : decide (24 < l0.length) = true := decide_eq_true (by omega)
  clear c2
  obtain rfl := Option.some.inj H
  go_enter Try.func14, Try.ntmps14
  go_wp2
  go_ret
  exact ⟨re, bq⟩
 ·rw [if_neg c2] at H
  have c2b0 : decide (24 < (l0.length : Int)) = false := decide_eq_false c2
  have c2b1 : decide (24 < l0.length) = false := decide_eq_false (by omega)
  clear c2
  have H' := Aside0.mk H
  clear H
  go_enter Try.func14, Try.ntmps14
  go_wp2
  go_loopg [3] k (fun kq v3 w' => ∃ (x3_1 : Int), v3 = .int .i64 x3_1 ∧ Aside0 (spec_ProbeSkyOk.l0 kq l0 x3_1 = some r) ∧ Aside0 (kq ≤ k) ∧ Aside0 (Below w.heap.size w w'))
  case atStart => exact ⟨(0), rs, H', ⟨Nat.le_refl _⟩, ⟨bq⟩⟩
  case round =>
   clear H'
   try clear c2
   try clear c2b0
   try clear c2b1
   obtain ⟨x3_1, rfl, HA, HK1, HB⟩ := hrel
   cases gk with
   | zero => exact absurd HA.out (by simp [spec_ProbeSkyOk.l0])
   | succ k1 =>
    have H := HA.out
    clear HA
    simp only [spec_ProbeSkyOk.l0] at H
    by_cases c3 : x3_1 < (l0.length : Int)
    ·rw [if_pos c3] at H
     have c3b0 : decide (x3_1 < (l0.length : Int)) = true := decide_eq_true c3
     clear c3
     by_cases c4 : 0 ≤ x3_1
     ·rw [if_pos c4] at H
      have c4b0 : decide (0 ≤ x3_1) = true := decide_eq_true c4
      clear c4
      obtain ⟨t116, A5, H⟩ := bo H
      by_cases c6 : t116 = true
      ·subst c6
       replace H := it H rfl
       by_cases c7 : x3_1 > 0
       ·rw [if_pos c7] at H
        have c7b0 : decide (0 < x3_1) = true := decide_eq_true c7
        clear c7
        obtain ⟨ji8, hji8⟩ : ∃ j_ : Int, (wrap64 (x3_1 - 1)) = j_ := ⟨_, rfl⟩
        replace H : (if 0 ≤ (ji8) then (if (ji8) < (l0.length : Int) then (if ((Op.bytesLess (((rd_T42 l0 (ji8)).f0).toList) (((rd_T42 l0 x3_1).f0).toList)) = true) then (spec_ProbeSkyOk.l0 k1 l0 (wrap64 (x3_1 + 1))) else (some false)) else (none)) else (none)) = some r := by first | (rw [hji8] at H; exact H) | (simp only [hji8] at H ⊢; exact H)
        (try rw [hji8] at A5)
        have hji8w : (IntKind.i64.wrap (x3_1 - 1)) = ji8 := (i64_w _).trans hji8
        by_cases c9 : 0 ≤ (ji8)
        ·rw [if_pos c9] at H
         have c9b0 : decide (0 ≤ (ji8)) = true := decide_eq_true c9
         clear c9
         by_cases c10 : (ji8) < (l0.length : Int)
         ·rw [if_pos c10] at H
          have c10b0 : decide ((ji8) < (l0.length : Int)) = true := decide_eq_true c10
          clear c10
          by_cases c11 : ((Op.bytesLess (((rd_T42 l0 (ji8)).f0).toList) (((rd_T42 l0 x3_1).f0).toList)) = true)
          ·rw [if_pos c11] at H
           have c11b0 : (Op.bytesLess (((rd_T42 l0 (ji8)).f0).toList) (((rd_T42 l0 x3_1).f0).toList)) = true := c11
           clear c11
           have H' := Aside0.mk H
           clear H
           try go_wp2
           have _ := ra (below_drew1 HB.out)
           clear HB
           rename_i HB
           have p115 : 0 ≤ (x3_1 : Int) := od
           have q115 : x3_1 < (l0.length : Int) := od
           obtain ⟨ad115, A115_1, c115_1, e115, hx115_0, hx115_1, hl115_1, hi115_1⟩ := at_T42 HR0.out x3_1 p115 q115
           have hw115_1 := hx115_1
           have hw115_0 := hx115_0
           cases e115
           replace hx115_0 := hc HB hx115_0
           replace hx115_1 := hc HB hx115_1
           have HR115_1 := Aside0.mk hi115_1
           have HC115_1 := Aside0.mk hl115_1
           clear hi115_1 hl115_1
           replace p115 := eq_true p115
           replace q115 := eq_true q115
           have p117 : 0 ≤ ((ji8) : Int) := od
           have q117 : (ji8) < (l0.length : Int) := od
           obtain ⟨ad117, A117_1, c117_1, e117, hx117_0, hx117_1, hl117_1, hi117_1⟩ := at_T42 HR0.out (ji8) p117 q117
           have hw117_1 := hx117_1
           have hw117_0 := hx117_0
           obtain rfl : ad115 = ad117 := (by injection e117)
           replace hx117_0 := hc HB hx117_0
           replace hx117_1 := hc HB hx117_1
           have HR117_1 := Aside0.mk hi117_1
           have HC117_1 := Aside0.mk hl117_1
           clear hi117_1 hl117_1
           replace p117 := eq_true p117
           replace q117 := eq_true q117
           have p118 : 0 ≤ (x3_1 : Int) := od
           have q118 : x3_1 < (l0.length : Int) := od
           obtain ⟨ad118, A118_1, c118_1, e118, hx118_0, hx118_1, hl118_1, hi118_1⟩ := at_T42 HR0.out x3_1 p118 q118
           have hw118_1 := hx118_1
           have hw118_0 := hx118_0
           obtain rfl : ad115 = ad118 := (by injection e118)
           replace hx118_0 := hc HB hx118_0
           replace hx118_1 := hc HB hx118_1
           have HR118_1 := Aside0.mk hi118_1
           have HC118_1 := Aside0.mk hl118_1
           clear hi118_1 hl118_1
           replace p118 := eq_true p118
           replace q118 := eq_true q118
           refine start_ (n := 24) (S := fun w' => w'.cell? (ad115.add ((x3_1).toNat * 2)) = some (.string ((rd_T42 l0 x3_1).f0)) ∧ w'.cell? ⟨(ad115.add ((x3_1).toNat * 2)).block, (ad115.add ((x3_1).toNat * 2)).off + 1, none⟩ = some (.slice A115_1 ((rd_T42 l0 x3_1).f1).length c115_1) ∧ w'.cell? (ad115.add (((ji8)).toNat * 2)) = some (.string ((rd_T42 l0 (ji8)).f0)) ∧ w'.cell? ⟨(ad115.add (((ji8)).toNat * 2)).block, (ad115.add (((ji8)).toNat * 2)).off + 1, none⟩ = some (.slice A117_1 ((rd_T42 l0 (ji8)).f1).length c117_1) ∧ w'.cell? (ad115.add ((x3_1).toNat * 2)) = some (.string ((rd_T42 l0 x3_1).f0)) ∧ w'.cell? ⟨(ad115.add ((x3_1).toNat * 2)).block, (ad115.add ((x3_1).toNat * 2)).off + 1, none⟩ = some (.slice A118_1 ((rd_T42 l0 x3_1).f1).length c118_1)) (ds := []) (bl 24 0) (by kernel_rfl) rfl rfl ⟨(hc HB hw115_0), (hc HB hw115_1), (hc HB hw117_0), (hc HB hw117_1), (hc HB hw118_0), (hc HB hw118_1)⟩ (fun hHeld => ?_); refine with_tabW spec_ProbeSkyOk.tab6 spec_ProbeSkyOk.bits6 (fun HT_ HW_ => ?_)
           generalize wr.drew = w12 at HB HR115_1 HR117_1 HR118_1 hx115_0 hx115_1 hx117_0 hx117_1 hx118_0 hx118_1 hHeld ⊢
           refine pu 0 13 (bl 24 1) ?_
           refine pu 1 14 (bl 24 3) ?_
           refine pu 2 15 (bl 24 7) ?_
           refine tk 3 16 (bl 24 15) ?_ hHeld
           refine oe 4 17 (bl 24 31) (fun K hK => ?_)
           refine gs Try.func28 #[.agg #[.string ((rd_T42 l0 x3_1).f0), .slice A115_1 ((rd_T42 l0 x3_1).f1).length c115_1]] ?_
           with_reducible refine (spec_ProbeTubeOk.calls k1 ((rd_T42 l0 x3_1).f0) _ _ ((rd_T42 l0 x3_1).f1) true _ ?side1 ?side2 A5.out).mono ?_
           (case side1 => exact sc HR115_1)
           (case side2 => exact HC115_1.out)
           rintro e w13 ⟨rfl, hb⟩
           refine ⟨_, rfl, ?_⟩
           have _ := bs hb
           clear HB
           rename_i HB
           (try clear hb)
           (try clear hb2)
           (try clear hk)
           (try clear hi)
           refine hK.out _ _ ⟨(hc HB hw115_0), (hc HB hw115_1), (hc HB hw117_0), (hc HB hw117_1), (hc HB hw118_0), (hc HB hw118_1)⟩ (fun hHeld => ?_)
           clear hK K
           refine nm 17 ?_
           refine pu 5 18 (bl 24 63) ?_
           refine pu 6 19 (bl 24 127) ?_
           refine pu 7 20 (bl 24 255) ?_
           refine pu 8 21 (bl 24 511) ?_
           refine pu 9 22 (bl 24 1023) ?_
           refine pu 10 23 (bl 24 2047) ?_
           refine pu 11 24 (bl 24 4095) ?_
           refine pu 12 25 (bl 24 8191) ?_
           refine pu 13 26 (bl 24 16383) ?_
           refine pu 14 27 (bl 24 32767) ?_
           refine pu 16 29 (bl 24 98303) ?_
           refine pu 17 30 (bl 24 229375) ?_
           refine pu 18 31 (bl 24 491519) ?_
           refine pu 19 32 (bl 24 1015807) ?_
           refine tk 15 28 (bl 24 1048575) ?_ hHeld
           refine tk 20 33 (bl 24 2097151) ?_ hHeld
           refine pu 21 34 (bl 24 4194303) ?_
           refine pu 22 35 (bl 24 8388607) ?_
           refine pu 23 36 (bl 24 16777215) ?_
           refine done_ (done_of HT_.out (by kernel_rfl)) ?_
           try go_wp2
           go_roundg k1
           case measure => have := HK1.out; omega
           case rel => exact ⟨(wrap64 (x3_1 + 1)), rs, H', ⟨by have := HK1.out; omega⟩, ⟨bq⟩⟩
          ·rw [if_neg c11] at H
           have c11b0 : (Op.bytesLess (((rd_T42 l0 (ji8)).f0).toList) (((rd_T42 l0 x3_1).f0).toList)) = false := by simpa using c11
           clear c11
           obtain rfl := Option.some.inj H
           try go_wp2
           have _ := ra (below_drew1 HB.out)
           clear HB
           rename_i HB
           have p115 : 0 ≤ (x3_1 : Int) := od
           have q115 : x3_1 < (l0.length : Int) := od
           obtain ⟨ad115, A115_1, c115_1, e115, hx115_0, hx115_1, hl115_1, hi115_1⟩ := at_T42 HR0.out x3_1 p115 q115
           have hw115_1 := hx115_1
           have hw115_0 := hx115_0
           cases e115
           replace hx115_0 := hc HB hx115_0
           replace hx115_1 := hc HB hx115_1
           have HR115_1 := Aside0.mk hi115_1
           have HC115_1 := Aside0.mk hl115_1
           clear hi115_1 hl115_1
           replace p115 := eq_true p115
           replace q115 := eq_true q115
           have p117 : 0 ≤ ((ji8) : Int) := od
           have q117 : (ji8) < (l0.length : Int) := od
           obtain ⟨ad117, A117_1, c117_1, e117, hx117_0, hx117_1, hl117_1, hi117_1⟩ := at_T42 HR0.out (ji8) p117 q117
           have hw117_1 := hx117_1
           have hw117_0 := hx117_0
           obtain rfl : ad115 = ad117 := (by injection e117)
           replace hx117_0 := hc HB hx117_0
           replace hx117_1 := hc HB hx117_1
           have HR117_1 := Aside0.mk hi117_1
           have HC117_1 := Aside0.mk hl117_1
           clear hi117_1 hl117_1
           replace p117 := eq_true p117
           replace q117 := eq_true q117
           have p118 : 0 ≤ (x3_1 : Int) := od
           have q118 : x3_1 < (l0.length : Int) := od
           obtain ⟨ad118, A118_1, c118_1, e118, hx118_0, hx118_1, hl118_1, hi118_1⟩ := at_T42 HR0.out x3_1 p118 q118
           have hw118_1 := hx118_1
           have hw118_0 := hx118_0
           obtain rfl : ad115 = ad118 := (by injection e118)
           replace hx118_0 := hc HB hx118_0
           replace hx118_1 := hc HB hx118_1
           have HR118_1 := Aside0.mk hi118_1
           have HC118_1 := Aside0.mk hl118_1
           clear hi118_1 hl118_1
           replace p118 := eq_true p118
           replace q118 := eq_true q118
           refine start_ (n := 24) (S := fun w' => w'.cell? (ad115.add ((x3_1).toNat * 2)) = some (.string ((rd_T42 l0 x3_1).f0)) ∧ w'.cell? ⟨(ad115.add ((x3_1).toNat * 2)).block, (ad115.add ((x3_1).toNat * 2)).off + 1, none⟩ = some (.slice A115_1 ((rd_T42 l0 x3_1).f1).length c115_1) ∧ w'.cell? (ad115.add (((ji8)).toNat * 2)) = some (.string ((rd_T42 l0 (ji8)).f0)) ∧ w'.cell? ⟨(ad115.add (((ji8)).toNat * 2)).block, (ad115.add (((ji8)).toNat * 2)).off + 1, none⟩ = some (.slice A117_1 ((rd_T42 l0 (ji8)).f1).length c117_1) ∧ w'.cell? (ad115.add ((x3_1).toNat * 2)) = some (.string ((rd_T42 l0 x3_1).f0)) ∧ w'.cell? ⟨(ad115.add ((x3_1).toNat * 2)).block, (ad115.add ((x3_1).toNat * 2)).off + 1, none⟩ = some (.slice A118_1 ((rd_T42 l0 x3_1).f1).length c118_1)) (ds := []) (bl 24 0) (by kernel_rfl) rfl rfl ⟨(hc HB hw115_0), (hc HB hw115_1), (hc HB hw117_0), (hc HB hw117_1), (hc HB hw118_0), (hc HB hw118_1)⟩ (fun hHeld => ?_); refine with_tabW spec_ProbeSkyOk.tab6 spec_ProbeSkyOk.bits6 (fun HT_ HW_ => ?_)
           generalize wr.drew = w14 at HB HR115_1 HR117_1 HR118_1 hx115_0 hx115_1 hx117_0 hx117_1 hx118_0 hx118_1 hHeld ⊢
           refine pu 0 13 (bl 24 1) ?_
           refine pu 1 14 (bl 24 3) ?_
           refine pu 2 15 (bl 24 7) ?_
           refine tk 3 16 (bl 24 15) ?_ hHeld
           refine oe 4 17 (bl 24 31) (fun K hK => ?_)
           refine gs Try.func28 #[.agg #[.string ((rd_T42 l0 x3_1).f0), .slice A115_1 ((rd_T42 l0 x3_1).f1).length c115_1]] ?_
           with_reducible refine (spec_ProbeTubeOk.calls k1 ((rd_T42 l0 x3_1).f0) _ _ ((rd_T42 l0 x3_1).f1) true _ ?side1 ?side2 A5.out).mono ?_
           (case side1 => exact sc HR115_1)
           (case side2 => exact HC115_1.out)
           rintro e w15 ⟨rfl, hb⟩
           refine ⟨_, rfl, ?_⟩
           have _ := bs hb
           clear HB
           rename_i HB
           (try clear hb)
           (try clear hb2)
           (try clear hk)
           (try clear hi)
           refine hK.out _ _ ⟨(hc HB hw115_0), (hc HB hw115_1), (hc HB hw117_0), (hc HB hw117_1), (hc HB hw118_0), (hc HB hw118_1)⟩ (fun hHeld => ?_)
           clear hK K
           refine nm 17 ?_
           refine pu 5 18 (bl 24 63) ?_
           refine pu 6 19 (bl 24 127) ?_
           refine pu 7 20 (bl 24 255) ?_
           refine pu 8 21 (bl 24 511) ?_
           refine pu 9 22 (bl 24 1023) ?_
           refine pu 10 23 (bl 24 2047) ?_
           refine pu 11 24 (bl 24 4095) ?_
           refine pu 12 25 (bl 24 8191) ?_
           refine pu 13 26 (bl 24 16383) ?_
           refine pu 14 27 (bl 24 32767) ?_
           refine pu 16 29 (bl 24 98303) ?_
           refine pu 17 30 (bl 24 229375) ?_
           refine pu 18 31 (bl 24 491519) ?_
           refine pu 19 32 (bl 24 1015807) ?_
           refine tk 15 28 (bl 24 1048575) ?_ hHeld
           refine tk 20 33 (bl 24 2097151) ?_ hHeld
           refine pu 21 34 (bl 24 4194303) ?_
           refine pu 22 35 (bl 24 8388607) ?_
           refine pu 23 36 (bl 24 16777215) ?_
           refine done_ (done_of HT_.out (by kernel_rfl)) ?_
           try go_wp2
           go_ret
           exact ⟨by first | rfl | (simp [errW_none, errW_some] <;> rfl) | (simp only [← hji8]; first | rfl | (simp [errW_none, errW_some] <;> rfl)) | (simp [*, errW_none, errW_some] <;> rfl), bq⟩
         ·rw [if_neg c10] at H
          exact absurd H (by simp)
        ·rw [if_neg c9] at H
         exact absurd H (by simp)
       ·rw [if_neg c7] at H
        have c7b0 : decide (0 < x3_1) = false := decide_eq_false c7
        clear c7
        have H' := Aside0.mk H
        clear H
        try go_wp2
        have _ := ra (below_drew1 HB.out)
        clear HB
        rename_i HB
        have p115 : 0 ≤ (x3_1 : Int) := od
        have q115 : x3_1 < (l0.length : Int) := od
        obtain ⟨ad115, A115_1, c115_1, e115, hx115_0, hx115_1, hl115_1, hi115_1⟩ := at_T42 HR0.out x3_1 p115 q115
        have hw115_1 := hx115_1
        have hw115_0 := hx115_0
        cases e115
        replace hx115_0 := hc HB hx115_0
        replace hx115_1 := hc HB hx115_1
        have HR115_1 := Aside0.mk hi115_1
        have HC115_1 := Aside0.mk hl115_1
        clear hi115_1 hl115_1
        replace p115 := eq_true p115
        replace q115 := eq_true q115
        refine start_ (n := 24) (S := fun w' => w'.cell? (ad115.add ((x3_1).toNat * 2)) = some (.string ((rd_T42 l0 x3_1).f0)) ∧ w'.cell? ⟨(ad115.add ((x3_1).toNat * 2)).block, (ad115.add ((x3_1).toNat * 2)).off + 1, none⟩ = some (.slice A115_1 ((rd_T42 l0 x3_1).f1).length c115_1)) (ds := []) (bl 24 0) (by kernel_rfl) rfl rfl ⟨(hc HB hw115_0), (hc HB hw115_1)⟩ (fun hHeld => ?_); refine with_tabW spec_ProbeSkyOk.tab6 spec_ProbeSkyOk.bits6 (fun HT_ HW_ => ?_)
        generalize wr.drew = w16 at HB HR115_1 hx115_0 hx115_1 hHeld ⊢
        refine pu 0 13 (bl 24 1) ?_
        refine pu 1 14 (bl 24 3) ?_
        refine pu 2 15 (bl 24 7) ?_
        refine tk 3 16 (bl 24 15) ?_ hHeld
        refine oe 4 17 (bl 24 31) (fun K hK => ?_)
        refine gs Try.func28 #[.agg #[.string ((rd_T42 l0 x3_1).f0), .slice A115_1 ((rd_T42 l0 x3_1).f1).length c115_1]] ?_
        with_reducible refine (spec_ProbeTubeOk.calls k1 ((rd_T42 l0 x3_1).f0) _ _ ((rd_T42 l0 x3_1).f1) true _ ?side1 ?side2 A5.out).mono ?_
        (case side1 => exact sc HR115_1)
        (case side2 => exact HC115_1.out)
        rintro e w17 ⟨rfl, hb⟩
        refine ⟨_, rfl, ?_⟩
        have _ := bs hb
        clear HB
        rename_i HB
        (try clear hb)
        (try clear hb2)
        (try clear hk)
        (try clear hi)
        refine hK.out _ _ ⟨(hc HB hw115_0), (hc HB hw115_1)⟩ (fun hHeld => ?_)
        clear hK K
        refine nm 17 ?_
        refine pu 5 18 (bl 24 63) ?_
        refine pu 6 19 (bl 24 127) ?_
        refine pu 7 20 (bl 24 255) ?_
        refine pu 8 21 (bl 24 511) ?_
        refine pu 9 22 (bl 24 1023) ?_
        refine pv 10 23 (bl 24 2047) ?_
        refine pv 11 24 (bl 24 4095) ?_
        refine pv 12 25 (bl 24 8191) ?_
        refine pv 13 26 (bl 24 16383) ?_
        refine pv 14 27 (bl 24 32767) ?_
        refine pv 15 28 (bl 24 65535) ?_
        refine pv 16 29 (bl 24 131071) ?_
        refine pv 17 30 (bl 24 262143) ?_
        refine pv 18 31 (bl 24 524287) ?_
        refine pv 19 32 (bl 24 1048575) ?_
        refine pv 20 33 (bl 24 2097151) ?_
        refine pv 21 34 (bl 24 4194303) ?_
        refine pu 22 35 (bl 24 8388607) ?_
        refine pu 23 36 (bl 24 16777215) ?_
        refine done_ (done_of HT_.out (by kernel_rfl)) ?_
        try go_wp2
        go_roundg k1
        case measure => have := HK1.out; omega
        case rel => exact ⟨(wrap64 (x3_1 + 1)), rs, H', ⟨by have := HK1.out; omega⟩, ⟨bq⟩⟩
      ·replace c6 := Bool.eq_false_iff.mpr c6
       subst c6
       have H1 : (some false) = some r := by rw [if_neg (show ¬ (false = true) by decide)] at H; exact H
       clear H
       have H := H1
       clear H1
       obtain rfl := Option.some.inj H
       try go_wp2
       have _ := ra (below_drew1 HB.out)
       clear HB
       rename_i HB
       have p115 : 0 ≤ (x3_1 : Int) := od
       have q115 : x3_1 < (l0.length : Int) := od
       obtain ⟨ad115, A115_1, c115_1, e115, hx115_0, hx115_1, hl115_1, hi115_1⟩ := at_T42 HR0.out x3_1 p115 q115
       have hw115_1 := hx115_1
       have hw115_0 := hx115_0
       cases e115
       replace hx115_0 := hc HB hx115_0
       replace hx115_1 := hc HB hx115_1
       have HR115_1 := Aside0.mk hi115_1
       have HC115_1 := Aside0.mk hl115_1
       clear hi115_1 hl115_1
       replace p115 := eq_true p115
       replace q115 := eq_true q115
       refine start_ (n := 24) (S := fun w' => w'.cell? (ad115.add ((x3_1).toNat * 2)) = some (.string ((rd_T42 l0 x3_1).f0)) ∧ w'.cell? ⟨(ad115.add ((x3_1).toNat * 2)).block, (ad115.add ((x3_1).toNat * 2)).off + 1, none⟩ = some (.slice A115_1 ((rd_T42 l0 x3_1).f1).length c115_1)) (ds := []) (bl 24 0) (by kernel_rfl) rfl rfl ⟨(hc HB hw115_0), (hc HB hw115_1)⟩ (fun hHeld => ?_); refine with_tabW spec_ProbeSkyOk.tab6 spec_ProbeSkyOk.bits6 (fun HT_ HW_ => ?_)
       generalize wr.drew = w18 at HB HR115_1 hx115_0 hx115_1 hHeld ⊢
       refine pu 0 13 (bl 24 1) ?_
       refine pu 1 14 (bl 24 3) ?_
       refine pu 2 15 (bl 24 7) ?_
       refine tk 3 16 (bl 24 15) ?_ hHeld
       refine oe 4 17 (bl 24 31) (fun K hK => ?_)
       refine gs Try.func28 #[.agg #[.string ((rd_T42 l0 x3_1).f0), .slice A115_1 ((rd_T42 l0 x3_1).f1).length c115_1]] ?_
       with_reducible refine (spec_ProbeTubeOk.calls k1 ((rd_T42 l0 x3_1).f0) _ _ ((rd_T42 l0 x3_1).f1) false _ ?side1 ?side2 A5.out).mono ?_
       (case side1 => exact sc HR115_1)
       (case side2 => exact HC115_1.out)
       rintro e w19 ⟨rfl, hb⟩
       refine ⟨_, rfl, ?_⟩
       have _ := bs hb
       clear HB
       rename_i HB
       (try clear hb)
       (try clear hb2)
       (try clear hk)
       (try clear hi)
       refine hK.out _ _ ⟨(hc HB hw115_0), (hc HB hw115_1)⟩ (fun hHeld => ?_)
       clear hK K
       refine nm 17 ?_
       refine pu 5 18 (bl 24 63) ?_
       refine pu 6 19 (bl 24 127) ?_
       refine pv 7 20 (bl 24 255) ?_
       refine pv 8 21 (bl 24 511) ?_
       refine pv 9 22 (bl 24 1023) ?_
       refine pv 10 23 (bl 24 2047) ?_
       refine pv 11 24 (bl 24 4095) ?_
       refine pv 12 25 (bl 24 8191) ?_
       refine pv 13 26 (bl 24 16383) ?_
       refine pv 14 27 (bl 24 32767) ?_
       refine pv 15 28 (bl 24 65535) ?_
       refine pv 16 29 (bl 24 131071) ?_
       refine pv 17 30 (bl 24 262143) ?_
       refine pv 18 31 (bl 24 524287) ?_
       refine pv 19 32 (bl 24 1048575) ?_
       refine pv 20 33 (bl 24 2097151) ?_
       refine pv 21 34 (bl 24 4194303) ?_
       refine pv 22 35 (bl 24 8388607) ?_
       refine pu 23 36 (bl 24 16777215) ?_
       refine done_ (done_of HT_.out (by kernel_rfl)) ?_
       try go_wp2
       go_ret
       exact ⟨re, bq⟩
     ·rw [if_neg c4] at H
      exact absurd H (by simp)
    ·rw [if_neg c3] at H
     have c3b0 : decide (x3_1 < (l0.length : Int)) = false := decide_eq_false c3
     clear c3
     obtain rfl := Option.some.inj H
     go_wp2
     go_ret
     exact ⟨re, bq⟩
end Go.Proofs.Ytgklmafdbgnohaa.PA
end
section
namespace Go.Proofs.Ytgklmafdbgnohaa.Ij
open Go.RowKit Go.Proofs.YtgklmafdbgnohaaW.PrintWords Go.Proofs.YtgklmafdbgnohaaW.PrintLast Go.Proofs.YtgklmafdbgnohaaW.PrintMore Go.Proofs.Ytgklmafdbgnohaa.Z Go.Proofs.Ytgklmafdbgnohaa.PA Go.Proofs.Ytgklmafdbgnohaa.Ik Go.Proofs.Ytgklmafdbgnohaa.Ix Go.Proofs.Ytgklmafdbgnohaa.Il Go.Proofs.Ytgklmafdbgnohaa.Iw Go.Proofs.Ytgklmafdbgnohaa.Ir Go.Proofs.Ytgklmafdbgnohaa.Ip
set_option linter.unusedSimpArgs false
set_option linter.unusedVariables false
def s5p.T : Bool × List (List Nat × List Nat) := (true, [([], []), ([], []), ([], []), ([1, 2], [1, 2]), ([3], [3]), ([4], [4]), ([], []), ([5, 6], [5, 6]), ([7], [7]), ([], []), ([], []), ([9, 10], [9, 10]), ([11], [11]), ([12], [12]), ([], []), ([0, 8, 13, 14], [0, 8, 13, 14]), ([15, 15, 0, 1, 2, 3, 4, 5, 6, 7, 8, 9, 10, 11, 12, 13, 14, 15], [15])])
def s5p.B : List Nat := [0, 0, 0, 6, 14, 30, 0, 126, 254, 0, 0, 1536, 3584, 7680, 0, 32767, 65535]
theorem s5p.tab : rtab .any (opsOf Try.f5 10) = s5p.T := by kernel_rfl
theorem s5p.bits : waitsOk s5p.T.2 s5p.B = true := by kernel_rfl
theorem insC_len (c : Int × Int) (s : Sl) : ∀ I : List Ce, (insC c s I).length ≤ I.length + 1
  | [] => by simp [insC]
  | x :: r => by
    have := insC_len c s r
    rw [insC]
    split
    · simp; omega
    · split
      · simp
      · simp
theorem insS_len (s : Sl) : ∀ l : List Sl, (insS s l).length = l.length + 1
  | [] => rfl
  | x :: r => by
    have := insS_len s r
    rw [insS]
    split
    · simp; omega
    · simp
theorem insC_slots (c : Int × Int) (s : Sl) (n : Nat) : ∀ I : List Ce, (∀ x ∈ I, x.f2.length ≤ n) → ∀ x ∈ insC c s I, x.f2.length ≤ n + 1
  | [], _, x, hx => by simp [insC] at hx; subst hx; simp
  | y :: r, h, x, hx => by
    have h1 := h y (by simp)
    have h2 := insC_slots c s n r (fun z hz => h z (by simp [hz]))
    rw [insC] at hx
    split at hx
    · rcases List.mem_cons.1 hx with rfl | hx
      · omega
      · exact h2 x hx
    · split at hx
      · rcases List.mem_cons.1 hx with rfl | hx
        · have := insS_len s y.f2; simp; omega
        · have := h x (by simp [hx]); omega
      · rcases List.mem_cons.1 hx with rfl | hx
        · simp
        · have := h x hx; omega
theorem putI_small (E : List Ev) : ∀ (I : List Ce) (n : Nat), I.length ≤ n → (∀ x ∈ I, x.f2.length ≤ n) → (E.foldl putI I).length ≤ n + E.length ∧ ∀ x ∈ E.foldl putI I, x.f2.length ≤ n + E.length := by
  induction E with
  | nil => intro I n h1 h2; exact ⟨h1, h2⟩
  | cons e r ih =>
    intro I n h1 h2
    have h3 := ih (putI I e) (n + 1) (Nat.le_trans (insC_len _ _ _) (by omega)) (insC_slots _ _ n I h2)
    rw [List.foldl_cons, List.length_cons]
    exact ⟨by omega, fun x hx => by have := h3.2 x hx; omega⟩
theorem small_of (E : List Ev) : (E.foldl putI []).length ≤ E.length ∧ ∀ x ∈ E.foldl putI [], x.f2.length ≤ E.length := by
  have := putI_small E [] 0 (by simp) (by simp)
  simpa using this
structure SI (w : World) (g2 g3 : Nat) (v : Value) (D : List Tr) (W : World) : Prop where
  x : CX w.heap.size v D W
  h2 : W.heap[g2]? = some (.cells #[.slice none 0 0] 26 (0, 0))
  h3 : W.heap[g3]? = some (.cells #[v] 26 (0, 0))
  bl : Below w.heap.size w W
  l2 : w.heap.size ≤ g2
  l3 : w.heap.size ≤ g3
  n : g2 ≠ g3
theorem SI.drewN {w W : World} {g2 g3 : Nat} {v : Value} {D : List Tr} (h : SI w g2 g3 v D W) (m : Nat) : SI w g2 g3 v D (W.drewN m) :=
  ⟨h.x.drewN m, blk_drewN h.h2 m, blk_drewN h.h3 m, pw_below_drewN h.bl m, h.l2, h.l3, h.n⟩
theorem SI.sto {w W W' : World} {g2 g3 : Nat} {v v' : Value} {D D' : List Tr} (h : SI w g2 g3 v D W) (hg : W.grownBy W' v.ownBlock) (hx : CX w.heap.size v' D' W') :
    W'.heap[g2]? = some (.cells #[.slice none 0 0] 26 (0, 0)) ∧ W'.heap[g3]? = some (.cells #[v] 26 (0, 0)) ∧ Below w.heap.size w W' ∧ SI w g2 g3 v' D' (W'.setCell ⟨g3, 0, none⟩ v') := by
  have cells : ∀ (b t : Nat) (cs : Array Value), W.heap[b]? = some (.cells cs t (0, 0)) → t ≠ 56 → W'.heap[b]? = some (.cells cs t (0, 0)) := fun b t cs hb ht => (hg.block b (blk_lt hb) (fun e => by
    obtain ⟨cs', hc⟩ := own_typed h.x.o b e.symm
    rw [hb] at hc
    injection hc with hc
    injection hc with _ hc
    exact ht hc)).trans hb
  have c2 := cells _ _ _ h.h2 (by decide)
  have c3 := cells _ _ _ h.h3 (by decide)
  have hb : Below w.heap.size w W' := h.bl.grown hg h.bl.size fun j hj => own_base h.x.o j hj
  exact ⟨c2, c3, hb, hx.own c3 (by decide) _ _, blk_far c2 (p := ⟨g3, 0, none⟩) h.n v', Z.bp (ra c3), below_set hb h.l3, h.l2, h.l3, h.n⟩
end Go.Proofs.Ytgklmafdbgnohaa.Ij
namespace Go.Proofs.Ytgklmafdbgnohaa.PA
open Go.RowKit Go.Proofs.YtgklmafdbgnohaaW.PrintWords Go.Proofs.YtgklmafdbgnohaaW.PrintLast Go.Proofs.YtgklmafdbgnohaaW.PrintMore Go.Proofs.Ytgklmafdbgnohaa.Z Go.Proofs.Ytgklmafdbgnohaa.Ik Go.Proofs.Ytgklmafdbgnohaa.Ix Go.Proofs.Ytgklmafdbgnohaa.Il Go.Proofs.Ytgklmafdbgnohaa.Iw Go.Proofs.Ytgklmafdbgnohaa.Ir Go.Proofs.Ytgklmafdbgnohaa.Ip Go.Proofs.Ytgklmafdbgnohaa.Ij
set_option linter.unusedSimpArgs false
set_option linter.unusedVariables false
set_option maxHeartbeats 8000000 in
set_option maxRecDepth 100000 in
theorem spec_ProbeIndexOf.calls (k : Nat) (A0 : Option Addr) (c0 : Nat) (l0 : List (S42)) (r : List (S56)) (w : World) (hr0 : Kd.C k42 w A0 l0.length l0) (hc0 : l0.length ≤ c0) (h : spec_ProbeIndexOf.f k l0 = some r) :
  Calls Try.prog 5 #[.slice A0 l0.length c0] w fun e w' => ∃ v0_ : Value, e = .returned (.agg #[v0_]) ∧ Kd.S k56 56 w' w.heap.size (fun _ => True) v0_ r ∧ Below w.heap.size w w' := by
 have hu26 := Try.underlying26
 have hu42 := Try.underlying42
 have hu45 := Try.underlying45
 have HR0 := Aside0.mk hr0
 have HC0 := Aside0.mk hc0
 clear hr0 hc0
 have HB := ra (Below.refl w.heap.size w)
 have H : ((spec_ProbeSkyOk.f k l0).bind fun t274 => (if t274 = true then ((Ix.spec l0).bind fun t275 => (some t275)) else (some ([] : List (S56))))) = some r := h
 clear h
 obtain ⟨t274, A2, H⟩ := bo H
 by_cases c3 : t274 = true
 · subst c3
   replace H := it H rfl
   obtain ⟨t275, A4, H⟩ := bo H
   obtain rfl := Option.some.inj H
   have hlim : Aside0 (Small l0 ∧ (evT l0).foldl putI [] = t275) := by
    have h := A4.out
    unfold Ix.spec at h
    split at h
    · exact ⟨by assumption, Option.some.inj h⟩
    · cases h
   clear H A4
   go_enter Try.func5, Try.ntmps5
   go_upto_block 0 with (first | ((with_reducible refine gate_dst (N := 2) rfl ?_); refine be 2 #[.slice none 0 0] 26 ?_; intro g2 hg2 w5 h2 hb; have K1 := ra hb; have H2 := ra h2; have L2 := ra (Nat.le_of_eq hg2.symm); clear hb h2 hg2) | ((with_reducible refine gate_dst (N := 3) rfl ?_); refine be 3 #[.slice none 0 0] 26 ?_; intro g3 hg3 w6 h3 hb; have K2 := ra (below_step K1.out hb); have I2 := bb H2.out hb; have H3 := ra h3; have L3 := ra (show w.heap.size ≤ g3 from by rw [hg3]; exact below_size K1.out); have N23 := ra (show g2 ≠ g3 from by rw [hg3]; exact Nat.ne_of_lt (blk_lt H2.out)); clear hb h3 hg3 H2 K1; obtain ⟨za, zaf⟩ := zc1 H3) | ((with_reducible refine gate_callee (f := 14) rfl ?_); refine gl (some 8) Try.func14 #[.slice A0 l0.length c0] ?_; (have K3 : Aside0 (Below w.heap.size w (w6.setCell ⟨g3, 0, none⟩ (.slice none 0 0))) := ⟨below_set K2.out L3.out⟩); (have J2 := blk_far I2.out (p := ⟨g3, 0, none⟩) N23.out (.slice none 0 0)); (have J3 : (w6.setCell ⟨g3, 0, none⟩ (.slice none 0 0)).heap[g3]? = some (.cells #[.slice none 0 0] 26 (0, 0)) := Z.bp H3); generalize w6.setCell ⟨g3, 0, none⟩ (.slice none 0 0) = w7 at K3 J2 J3 ⊢; (with_reducible refine (spec_ProbeSkyOk.calls k _ _ l0 true _ (Kd.C_below HR0.out K3.out) HC0.out A2.out).mono ?_); rintro e w8 ⟨rfl, hb⟩; refine ⟨_, rfl, ?_⟩; have K4 := below_step K3.out hb; have HI0 := ra (show SI w g2 g3 (.slice none 0 0) [] w8 from ⟨CX.nil _ _, blk_below J2 hb, blk_below J3 hb, K4, L2.out, L3.out, N23.out⟩); clear J2 J3 K3 K4 hb I2 H3 K2 za zaf))
   clear HB A2 L2 L3 N23
   go_cut [] (fun wc => ∃ (v : Value) (D : List Tr), Aside0 (SI w g2 g3 v D wc ∧ D.map tc = t275))
   case first =>
    go_wp2_with fail
    go_loopg [4] l0.length (fun kx s4 wr => ∃ (i : Nat) (v : Value) (D : List Tr), s4 = .int .i64 (i : Int) ∧ Aside0 (i ≤ l0.length ∧ l0.length - i ≤ kx) ∧ Aside0 (D.map tc = (evT (l0.take i)).foldl putI []) ∧ Aside0 (SI w g2 g3 v D wr))
    case atStart => exact ⟨0, _, [], rfl, ⟨Nat.zero_le _, Nat.le_refl _⟩, ⟨rfl⟩, HI0⟩
    case round =>
     clear HI0
     obtain ⟨i, v, D, rfl, HX, HD, HM⟩ := hrel
     by_cases hlt : i < l0.length
     · have hxz : (i : Int) < (l0.length : Int) := by omega
       have hx0 : (0 : Int) ≤ (i : Int) := by omega
       obtain ⟨ad, A1, c1, e, ht0, ht1, hl1, hC1⟩ := at_T42 HR0.out (i : Int) hx0 hxz
       cases e
       have HC1 := Aside0.mk hC1
       clear hl1 hC1
       have hTU : Aside0 (rd_T42 l0 (i : Int) = l0[i]) := ⟨by unfold rd_T42; simp [hlt]⟩
       generalize rd_T42 l0 (i : Int) = tu at ht0 ht1 HC1 hTU
       simp only [Int.toNat_natCast] at ht0 ht1
       have T0 := ra ht0
       have T1 := ra ht1
       clear ht0 ht1
       have hx0' := eq_true hx0
       have hxz' := eq_true hxz
       go_wp2_with fail
       go_loopg [5] tu.f1.length (fun kx s5 wr2 => ∃ (j : Nat) (v2 : Value) (D2 : List Tr), s5 = .int .i64 (j : Int) ∧ Aside0 (j ≤ tu.f1.length ∧ tu.f1.length - j ≤ kx) ∧ Aside0 (D2.map tc = (evB tu.f0 0 (tu.f1.take j)).foldl putI ((evT (l0.take i)).foldl putI [])) ∧ Aside0 (SI w g2 g3 v2 D2 wr2))
       case atStart => exact ⟨0, v, D, rfl, ⟨Nat.zero_le _, Nat.le_refl _⟩, HD, HM⟩
       case round =>
        clear HM HD
        obtain ⟨j, v2, D2, rfl, HY, HD, HM⟩ := hrel
        have ht0 := hc (ra HM.out.bl) T0.out
        have ht1 := hc (ra HM.out.bl) T1.out
        by_cases hlt2 : j < tu.f1.length
        · have hyz : (j : Int) < (tu.f1.length : Int) := by omega
          have hy0 : (0 : Int) ≤ (j : Int) := by omega
          obtain ⟨ad2, e, hb0, hb1, hb2, hb3, hb4, hb5⟩ := at_T45 HC1.out (j : Int) hy0 hyz
          cases e
          simp only [Int.toNat_natCast] at hb0 hb1 hb2 hb3 hb4 hb5
          have HBX : Aside0 (rd_T45 tu.f1 (j : Int) = tu.f1[j]) := ⟨by unfold rd_T45; simp [hlt2]⟩
          generalize rd_T45 tu.f1 (j : Int) = bx at hb0 hb1 hb2 hb3 hb4 hb5 HBX
          have hy0' := eq_true hy0
          have hyz' := eq_true hyz
          obtain ⟨A, c, hv⟩ := HM.out.x.slice
          subst hv
          have hsm := small_of (evT (l0.take i) ++ evB tu.f0 0 (tu.f1.take j))
          have hle : (evT (l0.take i) ++ evB tu.f0 0 (tu.f1.take j)).length ≤ 1000000 := by
           have := evT_pre l0 i j hlt
           rw [← hTU.out] at this
           have := hlim.out.1.1
           rw [List.length_append]
           omega
          rw [List.foldl_append, ← HD.out, List.length_map] at hsm
          have HSM := ra (show D2.length ≤ 1000000 ∧ ∀ t ∈ D2, t.2.2.length ≤ 1000000 from ⟨by omega, fun t ht => Nat.le_trans (hsm.2 (tc t) (List.mem_map_of_mem ht)) hle⟩)
          clear hsm hle
          go_wp2_with fail
          have HM2 := ra (HM.out.drewN 1)
          have HBL := ra HM2.out.bl
          have hS : ∀ w', Below w.heap.size w w' → w'.cell? ⟨g3, 0, none⟩ = some (.slice A D2.length c) → w'.cell? ⟨g3, 0, none⟩ = some (.slice A D2.length c) ∧ w'.cell? (ad.add (i * 2)) = some (.string tu.f0) ∧ w'.cell? ⟨(ad.add (i * 2)).block, (ad.add (i * 2)).off + 1, none⟩ = some (.slice (some ad2) tu.f1.length c1) ∧ w'.cell? (ad2.add (j * 6)) = some (.int .i64 bx.f0) ∧ w'.cell? ⟨(ad2.add (j * 6)).block, (ad2.add (j * 6)).off + 1, none⟩ = some (.int .i64 bx.f1) ∧ w'.cell? ⟨(ad2.add (j * 6)).block, (ad2.add (j * 6)).off + 2, none⟩ = some (.int .i64 bx.f2) ∧ w'.cell? ⟨(ad2.add (j * 6)).block, (ad2.add (j * 6)).off + 3, none⟩ = some (.int .i64 bx.f3) ∧ w'.cell? ⟨(ad2.add (j * 6)).block, (ad2.add (j * 6)).off + 4, none⟩ = some (.int .i64 bx.f4) ∧ w'.cell? ⟨(ad2.add (j * 6)).block, (ad2.add (j * 6)).off + 5, none⟩ = some (.int .i64 bx.f5) := fun w' hbl h => ⟨h, hc (ra hbl) T0.out, hc (ra hbl) T1.out, hc (ra hbl) hb0, hc (ra hbl) hb1, hc (ra hbl) hb2, hc (ra hbl) hb3, hc (ra hbl) hb4, hc (ra hbl) hb5⟩
          have HS := ra hS
          have q0 := hS _ HM2.out.bl ((blk_cell HM2.out.h3 0).trans rfl)
          clear hS
          refine start_ (n := 17) (S := fun w' => w'.cell? ⟨g3, 0, none⟩ = some (.slice A D2.length c) ∧ w'.cell? (ad.add (i * 2)) = some (.string tu.f0) ∧ w'.cell? ⟨(ad.add (i * 2)).block, (ad.add (i * 2)).off + 1, none⟩ = some (.slice (some ad2) tu.f1.length c1) ∧ w'.cell? (ad2.add (j * 6)) = some (.int .i64 bx.f0) ∧ w'.cell? ⟨(ad2.add (j * 6)).block, (ad2.add (j * 6)).off + 1, none⟩ = some (.int .i64 bx.f1) ∧ w'.cell? ⟨(ad2.add (j * 6)).block, (ad2.add (j * 6)).off + 2, none⟩ = some (.int .i64 bx.f2) ∧ w'.cell? ⟨(ad2.add (j * 6)).block, (ad2.add (j * 6)).off + 3, none⟩ = some (.int .i64 bx.f3) ∧ w'.cell? ⟨(ad2.add (j * 6)).block, (ad2.add (j * 6)).off + 4, none⟩ = some (.int .i64 bx.f4) ∧ w'.cell? ⟨(ad2.add (j * 6)).block, (ad2.add (j * 6)).off + 5, none⟩ = some (.int .i64 bx.f5)) (ds := [16]) #[false, false, false, false, false, false, false, false, false, false, false, false, false, false, false, false, false] (by kernel_rfl) rfl rfl q0 (fun hHeld => ?_)
          refine with_tabW s5p.tab s5p.bits (fun HT_ HW_ => ?_)
          have hwd : wr.drew = wr.drewN 1 := rfl
          rw [hwd] at hHeld ⊢
          clear hwd q0 hb0 hb1 hb2 hb3 hb4 hb5 ht0 ht1
          generalize wr.drewN 1 = w10 at HM2 HBL hHeld ⊢
          clear HM
          refine tk 0 27 (bl 17 1) ?_ hHeld
          refine pu 1 28 (bl 17 3) ?_
          refine pu 2 29 (bl 17 7) ?_
          refine pu 3 30 (bl 17 15) ?_
          refine pu 4 31 (bl 17 31) ?_
          refine tk 5 32 (bl 17 63) ?_ hHeld
          refine pu 6 33 (bl 17 127) ?_
          refine pu 7 34 (bl 17 255) ?_
          refine tk 8 35 (bl 17 511) ?_ hHeld
          refine pu 9 36 (bl 17 1023) ?_
          refine pu 10 37 (bl 17 2047) ?_
          refine pu 11 38 (bl 17 4095) ?_
          refine pu 12 39 (bl 17 8191) ?_
          refine tk 13 40 (bl 17 16383) ?_ hHeld
          refine pu 14 41 (bl 17 32767) ?_
          refine oe 15 42 (bl 17 65535) (fun K hK => ?_)
          refine gs Try.func15 #[.agg #[.slice A D2.length c], .agg #[.int .i64 bx.f0, .int .i64 bx.f1, .int .i64 bx.f2, .int .i64 bx.f3, .int .i64 bx.f4, .int .i64 bx.f5], .string tu.f0, .int .i64 (j : Int)] ?_
          with_reducible refine (Ip.spec_l5Put.calls w.heap.size (.slice A D2.length c) D2 bx.f0 bx.f1 bx.f2 bx.f3 bx.f4 bx.f5 tu.f0 (j : Int) w10 HM2.out.x (below_size HM2.out.bl) HSM.out.1 HSM.out.2).mono ?_
          rintro e w30 ⟨v', rfl, D3, hx3, hm3, hg3⟩
          refine ⟨_, rfl, ?_⟩
          obtain ⟨A3, c3, hv3⟩ := hx3.slice
          subst hv3
          have hA := HM2.out.sto hg3 hx3
          have HA := ra hA.2.2.2
          have HC3 := ra hA.2.1
          have HM3 := ra hm3
          have hs30 := HS.out _ hA.2.2.1 ((blk_cell hA.2.1 0).trans rfl)
          clear hA hx3 hm3 hg3 HM2 HBL HS HSM
          refine hK.out _ _ hs30 (fun hHeld => ?_)
          clear hK K hs30
          refine nm 42 ?_
          obtain ⟨zc, zcf⟩ := zc1 HC3
          refine last_ (i := 16) (N := none) #[true, true, true, true, true, true, true, true, true, true, true, true, true, true, true, true, true] rfl rfl (one_of HT_.out (by kernel_rfl)) (by decide) (fun K hK => ?_)
          refine skip_ (w1 := ?_) (by rfl) rfl ?_ ?_
          rotate_left
          · go_simp
            rfl
          refine hK.out _ _ ?_
          clear hK K
          refine done_ (done_of HT_.out (by kernel_rfl)) ?_
          clear hHeld HT_ HW_ zc zcf HC3
          generalize w30.setCell ⟨g3, 0, none⟩ (.slice A3 D3.length c3) = w31 at HA ⊢
          go_wp2
          go_roundg (tu.f1.length - (j + 1))
          case measure => have := HY.out; omega
          case rel =>
           refine ⟨j + 1, _, D3, by congr 1; unfold wrap64; have := hlim.out.1.2.2 tu (by rw [hTU.out]; exact List.getElem_mem hlt); omega, ⟨by omega, Nat.le_refl _⟩, ⟨?_⟩, HA⟩
           rw [evB_take _ _ _ _ hlt2, List.foldl_append, ← HD.out, HM3.out, ← HBX.out, Nat.zero_add]
           rfl
        · have hyz : ¬ ((j : Int) < (tu.f1.length : Int)) := by omega
          go_wp2_with fail
          go_roundg (l0.length - (i + 1))
          case measure => have := HX.out; omega
          case rel =>
           refine ⟨i + 1, v2, D2, by congr 1; unfold wrap64; have := hlim.out.1.2.1; omega, ⟨by omega, Nat.le_refl _⟩, ?_, HM⟩
           have e : tu.f1.take j = tu.f1 := List.take_of_length_le (by omega)
           refine ⟨?_⟩
           rw [HD.out, e, foldl_evT l0 i hlt, List.foldl_append, ← hTU.out]
     · have hxz : ¬ ((i : Int) < (l0.length : Int)) := by omega
       go_wp2_with fail
       go_meet
       have e : l0.take i = l0 := List.take_of_length_le (by omega)
       rw [e] at HD
       exact ⟨v, D, HM.out, HD.out.trans hlim.out.2⟩
   case rest =>
    obtain ⟨v, D, HM⟩ := hcut
    obtain ⟨A, c, hv⟩ := HM.out.1.x.slice
    subst hv
    have W2 := ra HM.out.1.h2
    have W3 := ra HM.out.1.h3
    have W1 := ra HM.out.1.x
    have W4 := ra HM.out.1.bl
    have W5 := ra HM.out.1.l2
    have W6 := ra HM.out.2
    clear HM HI0
    obtain ⟨z2, z2f⟩ := zc1 W2
    obtain ⟨z3, _⟩ := zc1 W3
    go_wp2_with fail
    have hW : (wc.setCell ⟨g2, 0, none⟩ (.slice A D.length c)).heap[g2]? = some (.cells #[.slice A D.length c] 26 (0, 0)) := Z.bp W2
    refine bodyPost_ret (results_cell_row rfl _ _ g2 26 #[.slice A D.length c] (0, 0) _ rfl hW Try.underlying26 rfl (by kernel_rfl)) rfl ?_
    exact ⟨_, re, by rw [← W6.out]; exact (W1.out.own W2.out (by decide) _ _).S, below_set W4.out W5.out⟩
 · replace c3 := Bool.eq_false_iff.mpr c3
   subst c3
   have H1 : (some ([] : List (S56))) = some r := by rw [if_neg (show ¬ (false = true) by decide)] at H; exact H
   obtain rfl := Option.some.inj H1
   clear H H1
   go_enter Try.func5, Try.ntmps5
   go_wp2_with (first | ((with_reducible refine gate_dst (N := 2) rfl ?_); refine be 2 #[.slice none 0 0] 26 ?_; intro g2 hg2 w5 h2 hb; have K1 := ra hb; have H2 := ra h2; have L2 := ra (Nat.le_of_eq hg2.symm); clear hb h2 hg2) | ((with_reducible refine gate_dst (N := 3) rfl ?_); refine be 3 #[.slice none 0 0] 26 ?_; intro g3 hg3 w6 h3 hb; have K2 := ra (below_step K1.out hb); have I2 := bb H2.out hb; have H3 := ra h3; have L3 := ra (show w.heap.size ≤ g3 from by rw [hg3]; exact below_size K1.out); have N23 := ra (show g2 ≠ g3 from by rw [hg3]; exact Nat.ne_of_lt (blk_lt H2.out)); clear hb h3 hg3 H2 K1; obtain ⟨za, zaf⟩ := zc1 H3) | ((with_reducible refine gate_callee (f := 14) rfl ?_); refine gl (some 8) Try.func14 #[.slice A0 l0.length c0] ?_; (have K3 : Aside0 (Below w.heap.size w (w6.setCell ⟨g3, 0, none⟩ (.slice none 0 0))) := ⟨below_set K2.out L3.out⟩); (have J2 := blk_far I2.out (p := ⟨g3, 0, none⟩) N23.out (.slice none 0 0)); (have J3 : (w6.setCell ⟨g3, 0, none⟩ (.slice none 0 0)).heap[g3]? = some (.cells #[.slice none 0 0] 26 (0, 0)) := Z.bp H3); generalize w6.setCell ⟨g3, 0, none⟩ (.slice none 0 0) = w7 at K3 J2 J3 ⊢; (with_reducible refine (spec_ProbeSkyOk.calls k _ _ l0 false _ (Kd.C_below HR0.out K3.out) HC0.out A2.out).mono ?_); rintro e w8 ⟨rfl, hb⟩; refine ⟨_, rfl, ?_⟩; have K4 := below_step K3.out hb; have HI0 := ra (show SI w g2 g3 (.slice none 0 0) [] w8 from ⟨CX.nil _ _, blk_below J2 hb, blk_below J3 hb, K4, L2.out, L3.out, N23.out⟩); clear J2 J3 K3 K4 hb I2 H3 K2 za zaf; (have W2 := ra HI0.out.h2); (have W3 := ra HI0.out.h3); obtain ⟨z2, z2f⟩ := zc1 W2; obtain ⟨z3, _⟩ := zc1 W3))
   have hW : (w8.setCell ⟨g2, 0, none⟩ (.slice none 0 0)).heap[g2]? = some (.cells #[.slice none 0 0] 26 (0, 0)) := Z.bp W2
   refine bodyPost_ret (results_cell_row rfl _ _ g2 26 #[.slice none 0 0] (0, 0) _ rfl hW Try.underlying26 rfl (by kernel_rfl)) rfl ?_
   exact ⟨_, re, Kd.S_nil _ _ _ _ _, below_set HI0.out.bl HI0.out.l2⟩
end Go.Proofs.Ytgklmafdbgnohaa.PA
end
section
namespace Go.Proofs.Ytgklmafdbgnohaa.PA
open Go.RowKit Go.Proofs.YtgklmafdbgnohaaW.PrintWords Go.Proofs.YtgklmafdbgnohaaW.PrintLast Go.Proofs.YtgklmafdbgnohaaW.PrintMore Go.Proofs.Ytgklmafdbgnohaa.Z
attribute [local go_sem] max2_int min2_int max_two min_two max_three min_three max_four min_four
set_option linter.unusedVariables false
set_option linter.unusedSimpArgs false
def impl_ProbeSkyOk.T6 : Bool × List (List Nat × List Nat) := (true, [([], []), ([0], [0]), ([1], [1]), ([2, 1], [2]), ([3], [3]), ([4, 3], [3, 4]), ([5, 3, 3], [3, 5]), ([6], [6]), ([6], [6]), ([8, 6], [6, 8]), ([7, 9, 6], [6, 7, 9]), ([10, 6], [6, 10]), ([11, 6], [6, 11]), ([6], [6]), ([13, 6], [6, 13]), ([12, 14, 6], [6, 12, 14]), ([6, 15, 3], [3, 6, 15]), ([3, 16], [3, 16])])
def impl_ProbeSkyOk.B6 : List Nat := [0, 1, 3, 7, 15, 31, 63, 127, 127, 383, 1023, 2047, 4095, 127, 8319, 32767, 65535, 131071]
theorem impl_ProbeSkyOk.tab6 : rtab .any (opsOf Try.f17 6) = impl_ProbeSkyOk.T6 := by kernel_rfl
theorem impl_ProbeSkyOk.bits6 : waitsOk impl_ProbeSkyOk.T6.2 impl_ProbeSkyOk.B6 = true := by kernel_rfl
set_option maxHeartbeats 8000000 in
set_option maxRecDepth 100000 in
theorem impl_ProbeSkyOk.calls (k : Nat) (A0 : Option Addr) (c0 : Nat) (l0 : List (S42)) (r : Bool) (w : World) (hr0 : Kd.C k42 w A0 l0.length l0) (hc0 : l0.length ≤ c0) (h : impl_ProbeSkyOk.f k l0 = some r) :
  Calls Try.prog 17 #[.slice A0 l0.length c0] w fun e w' => e = .returned (.bool r) ∧ Below w.heap.size w w' := by
 have hu42 := Try.underlying42
 have HR0 := Aside0.mk hr0
 have HC0 := Aside0.mk hc0
 clear hr0 hc0
 have HB := ra (Below.refl w.heap.size w)
 have H : (if (l0.length : Int) > 24 then (some false) else (impl_ProbeSkyOk.l0 k l0 l0 (l0.length : Int) 0)) = some r := h
 clear h
 by_cases c2 : (l0.length : Int) > 24
 ·rw [if_pos c2] at H
  have c2b0 : decide (24 < (l0.length : Int)) = true := decide_eq_true c2
  have c2b1 : decide (24 < l0.length) = true := decide_eq_true (by omega)
  clear c2
  obtain rfl := Option.some.inj H
  go_enter Try.func17, Try.ntmps17
  go_wp2
  go_ret
  exact ⟨re, bq⟩
 ·rw [if_neg c2] at H
  have c2b0 : decide (24 < (l0.length : Int)) = false := decide_eq_false c2
  have c2b1 : decide (24 < l0.length) = false := decide_eq_false (by omega)
  clear c2
  have H' := Aside0.mk H
  clear H
  go_enter Try.func17, Try.ntmps17
  go_wp2
  go_loopg [10] k (fun kq v10 w' => ∃ (x10_1 : Int), v10 = .int .i64 x10_1 ∧ Aside0 (impl_ProbeSkyOk.l0 kq l0 l0 (l0.length : Int) x10_1 = some r) ∧ Aside0 (kq ≤ k) ∧ Aside0 (Below w.heap.size w w'))
  case atStart => exact ⟨(0), rs, H', ⟨Nat.le_refl _⟩, ⟨bq⟩⟩
  case round =>
   clear H'
   try clear c2
   try clear c2b0
   try clear c2b1
   obtain ⟨x10_1, rfl, HA, HK1, HB⟩ := hrel
   cases gk with
   | zero => exact absurd HA.out (by simp [impl_ProbeSkyOk.l0])
   | succ k1 =>
    have H := HA.out
    clear HA
    simp only [impl_ProbeSkyOk.l0] at H
    by_cases c3 : x10_1 < (l0.length : Int)
    ·rw [if_pos c3] at H
     have c3b0 : decide (x10_1 < (l0.length : Int)) = true := decide_eq_true c3
     clear c3
     by_cases c4 : 0 ≤ x10_1
     ·rw [if_pos c4] at H
      have c4b0 : decide (0 ≤ x10_1) = true := decide_eq_true c4
      clear c4
      by_cases c5 : x10_1 < (l0.length : Int)
      ·rw [if_pos c5] at H
       have c5b0 : decide (x10_1 < (l0.length : Int)) = true := decide_eq_true c5
       clear c5
       obtain ⟨t317, A6, H⟩ := bo H
       by_cases c7 : t317 = true
       ·subst c7
        replace H := it H rfl
        by_cases c8 : x10_1 > 0
        ·rw [if_pos c8] at H
         have c8b0 : decide (0 < x10_1) = true := decide_eq_true c8
         clear c8
         obtain ⟨ji9, hji9⟩ : ∃ j_ : Int, (wrap64 (x10_1 - 1)) = j_ := ⟨_, rfl⟩
         replace H : (if 0 ≤ (ji9) then (if (ji9) < (l0.length : Int) then (if ((Op.bytesLess (((rd_T42 l0 (ji9)).f0).toList) (((rd_T42 l0 x10_1).f0).toList)) = true) then (impl_ProbeSkyOk.l0 k1 l0 l0 (l0.length : Int) (wrap64 (x10_1 + 1))) else (some false)) else (none)) else (none)) = some r := by first | (rw [hji9] at H; exact H) | (simp only [hji9] at H ⊢; exact H)
         (try rw [hji9] at A6)
         have hji9w : (IntKind.i64.wrap (x10_1 - 1)) = ji9 := (i64_w _).trans hji9
         by_cases c10 : 0 ≤ (ji9)
         ·rw [if_pos c10] at H
          have c10b0 : decide (0 ≤ (ji9)) = true := decide_eq_true c10
          clear c10
          by_cases c11 : (ji9) < (l0.length : Int)
          ·rw [if_pos c11] at H
           have c11b0 : decide ((ji9) < (l0.length : Int)) = true := decide_eq_true c11
           clear c11
           by_cases c12 : ((Op.bytesLess (((rd_T42 l0 (ji9)).f0).toList) (((rd_T42 l0 x10_1).f0).toList)) = true)
           ·rw [if_pos c12] at H
            have c12b0 : (Op.bytesLess (((rd_T42 l0 (ji9)).f0).toList) (((rd_T42 l0 x10_1).f0).toList)) = true := c12
            clear c12
            have H' := Aside0.mk H
            clear H
            have p315 : 0 ≤ (x10_1 : Int) := od
            have q315 : x10_1 < (l0.length : Int) := od
            obtain ⟨ad315, A315_1, c315_1, e315, hx315_0, hx315_1, hl315_1, hi315_1⟩ := at_T42 HR0.out x10_1 p315 q315
            cases e315
            replace hx315_0 := hc HB hx315_0
            replace hx315_1 := hc HB hx315_1
            have HR315_1 := Aside0.mk hi315_1
            have HC315_1 := Aside0.mk hl315_1
            clear hi315_1 hl315_1
            replace p315 := eq_true p315
            replace q315 := eq_true q315
            try go_wp2_with (first | ((with_reducible refine gate_dst (N := 4) rfl ?_); refine be 4 #[.string (⟨#[]⟩ : ByteArray), .slice none 0 0] 42 ?_; intro gb316 hg w13 hbox hb; have _ := bs hb; have _ := ra (hbox); have _ := bz (w0 := w) hg; have _ := bz (w0 := w) hg; clear HB; rename_i HB BK316 GW316 GE316; clear hb hbox hg; obtain ⟨hcz14_0, hcz14_1, hfz14_0, hfz14_1⟩ := zc2 BK316))
            have n0 : Aside0 (((w13.setCell ⟨gb316, 0, none⟩ (.string ((rd_T42 l0 x10_1).f0))).setCell ⟨gb316, 1, none⟩ (.slice A315_1 ((rd_T42 l0 x10_1).f1).length c315_1)).heap[gb316]? = some (.cells #[.string ((rd_T42 l0 x10_1).f0), .slice A315_1 ((rd_T42 l0 x10_1).f1).length c315_1] 42 (0, 0))) := ⟨bp BK316⟩
            have n1 : Aside0 (Below w.heap.size w ((w13.setCell ⟨gb316, 0, none⟩ (.string ((rd_T42 l0 x10_1).f0))).setCell ⟨gb316, 1, none⟩ (.slice A315_1 ((rd_T42 l0 x10_1).f1).length c315_1))) := ⟨bq⟩
            (try clear BK316)
            (try clear HB)
            generalize ((w13.setCell ⟨gb316, 0, none⟩ (.string ((rd_T42 l0 x10_1).f0))).setCell ⟨gb316, 1, none⟩ (.slice A315_1 ((rd_T42 l0 x10_1).f1).length c315_1)) = w15 at n0 n1 ⊢
            have BK316 := n0
            have HB := n1
            clear n0 n1
            have _ := ra (blk_drew BK316.out)
            have _ := ra (below_drew1 HB.out)
            clear BK316 HB
            rename_i BK316 HB
            have p318 : 0 ≤ ((ji9) : Int) := od
            have q318 : (ji9) < (l0.length : Int) := od
            obtain ⟨ad318, A318_1, c318_1, e318, hx318_0, hx318_1, hl318_1, hi318_1⟩ := at_T42 HR0.out (ji9) p318 q318
            have hw318_1 := hx318_1
            have hw318_0 := hx318_0
            obtain rfl : ad315 = ad318 := (by injection e318)
            replace hx318_0 := hc HB hx318_0
            replace hx318_1 := hc HB hx318_1
            have HR318_1 := Aside0.mk hi318_1
            have HC318_1 := Aside0.mk hl318_1
            clear hi318_1 hl318_1
            replace p318 := eq_true p318
            replace q318 := eq_true q318
            refine start_ (n := 18) (S := fun w' => w'.cell? ⟨gb316, 0, none⟩ = some (.string ((rd_T42 l0 x10_1).f0)) ∧ w'.cell? ⟨gb316, 1, none⟩ = some (.slice A315_1 ((rd_T42 l0 x10_1).f1).length c315_1) ∧ w'.cell? (ad315.add (((ji9)).toNat * 2)) = some (.string ((rd_T42 l0 (ji9)).f0)) ∧ w'.cell? ⟨(ad315.add (((ji9)).toNat * 2)).block, (ad315.add (((ji9)).toNat * 2)).off + 1, none⟩ = some (.slice A318_1 ((rd_T42 l0 (ji9)).f1).length c318_1)) (ds := []) (bl 18 0) (by kernel_rfl) rfl rfl ⟨(blk_cell BK316.out 0).trans rfl, (blk_cell BK316.out 1).trans rfl, (hc HB hw318_0), (hc HB hw318_1)⟩ (fun hHeld => ?_); refine with_tabW impl_ProbeSkyOk.tab6 impl_ProbeSkyOk.bits6 (fun HT_ HW_ => ?_)
            generalize w15.drew = w16 at BK316 HB HR318_1 hx318_0 hx318_1 hHeld ⊢
            refine tk 0 15 (bl 18 1) ?_ hHeld
            refine oe 1 16 (bl 18 3) (fun K hK => ?_)
            refine gs Try.func31 #[.agg #[.string ((rd_T42 l0 x10_1).f0), .slice A315_1 ((rd_T42 l0 x10_1).f1).length c315_1]] ?_
            with_reducible refine (impl_ProbeTubeOk.calls k1 ((rd_T42 l0 x10_1).f0) _ _ ((rd_T42 l0 x10_1).f1) true _ ?side1 ?side2 A6.out).mono ?_
            (case side1 => exact sc HR315_1)
            (case side2 => exact HC315_1.out)
            rintro e w17 ⟨rfl, hb⟩
            refine ⟨_, rfl, ?_⟩
            have _ := bb (bk BK316) hb
            have _ := bs hb
            clear BK316 HB
            rename_i BK316 HB
            (try clear hb)
            (try clear hb2)
            (try clear hk)
            (try clear hi)
            refine hK.out _ _ ⟨(blk_cell BK316.out 0).trans rfl, (blk_cell BK316.out 1).trans rfl, (hc HB hw318_0), (hc HB hw318_1)⟩ (fun hHeld => ?_)
            clear hK K
            refine nm 16 ?_
            refine pu 2 17 (bl 18 7) ?_
            refine pu 3 18 (bl 18 15) ?_
            refine pu 4 19 (bl 18 31) ?_
            refine pu 5 20 (bl 18 63) ?_
            refine pu 6 21 (bl 18 127) ?_
            refine pu 7 22 (bl 18 255) ?_
            refine pu 8 23 (bl 18 511) ?_
            refine pu 9 24 (bl 18 1023) ?_
            refine pu 10 25 (bl 18 2047) ?_
            refine pu 11 26 (bl 18 4095) ?_
            refine pu 13 28 (bl 18 12287) ?_
            refine tk 12 27 (bl 18 16383) ?_ hHeld
            refine tk 14 29 (bl 18 32767) ?_ hHeld
            refine pu 15 30 (bl 18 65535) ?_
            refine pu 16 31 (bl 18 131071) ?_
            refine pu 17 32 (bl 18 262143) ?_
            refine done_ (done_of HT_.out (by kernel_rfl)) ?_
            try go_wp2
            go_roundg k1
            case measure => have := HK1.out; omega
            case rel => exact ⟨(wrap64 (x10_1 + 1)), rs, H', ⟨by have := HK1.out; omega⟩, ⟨bq⟩⟩
           ·rw [if_neg c12] at H
            have c12b0 : (Op.bytesLess (((rd_T42 l0 (ji9)).f0).toList) (((rd_T42 l0 x10_1).f0).toList)) = false := by simpa using c12
            clear c12
            obtain rfl := Option.some.inj H
            have p315 : 0 ≤ (x10_1 : Int) := od
            have q315 : x10_1 < (l0.length : Int) := od
            obtain ⟨ad315, A315_1, c315_1, e315, hx315_0, hx315_1, hl315_1, hi315_1⟩ := at_T42 HR0.out x10_1 p315 q315
            cases e315
            replace hx315_0 := hc HB hx315_0
            replace hx315_1 := hc HB hx315_1
            have HR315_1 := Aside0.mk hi315_1
            have HC315_1 := Aside0.mk hl315_1
            clear hi315_1 hl315_1
            replace p315 := eq_true p315
            replace q315 := eq_true q315
            try go_wp2_with (first | ((with_reducible refine gate_dst (N := 4) rfl ?_); refine be 4 #[.string (⟨#[]⟩ : ByteArray), .slice none 0 0] 42 ?_; intro gb316 hg w18 hbox hb; have _ := bs hb; have _ := ra (hbox); have _ := bz (w0 := w) hg; have _ := bz (w0 := w) hg; clear HB; rename_i HB BK316 GW316 GE316; clear hb hbox hg; obtain ⟨hcz19_0, hcz19_1, hfz19_0, hfz19_1⟩ := zc2 BK316))
            have n0 : Aside0 (((w18.setCell ⟨gb316, 0, none⟩ (.string ((rd_T42 l0 x10_1).f0))).setCell ⟨gb316, 1, none⟩ (.slice A315_1 ((rd_T42 l0 x10_1).f1).length c315_1)).heap[gb316]? = some (.cells #[.string ((rd_T42 l0 x10_1).f0), .slice A315_1 ((rd_T42 l0 x10_1).f1).length c315_1] 42 (0, 0))) := ⟨bp BK316⟩
            have n1 : Aside0 (Below w.heap.size w ((w18.setCell ⟨gb316, 0, none⟩ (.string ((rd_T42 l0 x10_1).f0))).setCell ⟨gb316, 1, none⟩ (.slice A315_1 ((rd_T42 l0 x10_1).f1).length c315_1))) := ⟨bq⟩
            (try clear BK316)
            (try clear HB)
            generalize ((w18.setCell ⟨gb316, 0, none⟩ (.string ((rd_T42 l0 x10_1).f0))).setCell ⟨gb316, 1, none⟩ (.slice A315_1 ((rd_T42 l0 x10_1).f1).length c315_1)) = w20 at n0 n1 ⊢
            have BK316 := n0
            have HB := n1
            clear n0 n1
            have _ := ra (blk_drew BK316.out)
            have _ := ra (below_drew1 HB.out)
            clear BK316 HB
            rename_i BK316 HB
            have p318 : 0 ≤ ((ji9) : Int) := od
            have q318 : (ji9) < (l0.length : Int) := od
            obtain ⟨ad318, A318_1, c318_1, e318, hx318_0, hx318_1, hl318_1, hi318_1⟩ := at_T42 HR0.out (ji9) p318 q318
            have hw318_1 := hx318_1
            have hw318_0 := hx318_0
            obtain rfl : ad315 = ad318 := (by injection e318)
            replace hx318_0 := hc HB hx318_0
            replace hx318_1 := hc HB hx318_1
            have HR318_1 := Aside0.mk hi318_1
            have HC318_1 := Aside0.mk hl318_1
            clear hi318_1 hl318_1
            replace p318 := eq_true p318
            replace q318 := eq_true q318
            refine start_ (n := 18) (S := fun w' => w'.cell? ⟨gb316, 0, none⟩ = some (.string ((rd_T42 l0 x10_1).f0)) ∧ w'.cell? ⟨gb316, 1, none⟩ = some (.slice A315_1 ((rd_T42 l0 x10_1).f1).length c315_1) ∧ w'.cell? (ad315.add (((ji9)).toNat * 2)) = some (.string ((rd_T42 l0 (ji9)).f0)) ∧ w'.cell? ⟨(ad315.add (((ji9)).toNat * 2)).block, (ad315.add (((ji9)).toNat * 2)).off + 1, none⟩ = some (.slice A318_1 ((rd_T42 l0 (ji9)).f1).length c318_1)) (ds := []) (bl 18 0) (by kernel_rfl) rfl rfl ⟨(blk_cell BK316.out 0).trans rfl, (blk_cell BK316.out 1).trans rfl, (hc HB hw318_0), (hc HB hw318_1)⟩ (fun hHeld => ?_); refine with_tabW impl_ProbeSkyOk.tab6 impl_ProbeSkyOk.bits6 (fun HT_ HW_ => ?_)
            generalize w20.drew = w21 at BK316 HB HR318_1 hx318_0 hx318_1 hHeld ⊢
            refine tk 0 15 (bl 18 1) ?_ hHeld
            refine oe 1 16 (bl 18 3) (fun K hK => ?_)
            refine gs Try.func31 #[.agg #[.string ((rd_T42 l0 x10_1).f0), .slice A315_1 ((rd_T42 l0 x10_1).f1).length c315_1]] ?_
            with_reducible refine (impl_ProbeTubeOk.calls k1 ((rd_T42 l0 x10_1).f0) _ _ ((rd_T42 l0 x10_1).f1) true _ ?side1 ?side2 A6.out).mono ?_
            (case side1 => exact sc HR315_1)
            (case side2 => exact HC315_1.out)
            rintro e w22 ⟨rfl, hb⟩
            refine ⟨_, rfl, ?_⟩
            have _ := bb (bk BK316) hb
            have _ := bs hb
            clear BK316 HB
            rename_i BK316 HB
            (try clear hb)
            (try clear hb2)
            (try clear hk)
            (try clear hi)
            refine hK.out _ _ ⟨(blk_cell BK316.out 0).trans rfl, (blk_cell BK316.out 1).trans rfl, (hc HB hw318_0), (hc HB hw318_1)⟩ (fun hHeld => ?_)
            clear hK K
            refine nm 16 ?_
            refine pu 2 17 (bl 18 7) ?_
            refine pu 3 18 (bl 18 15) ?_
            refine pu 4 19 (bl 18 31) ?_
            refine pu 5 20 (bl 18 63) ?_
            refine pu 6 21 (bl 18 127) ?_
            refine pu 7 22 (bl 18 255) ?_
            refine pu 8 23 (bl 18 511) ?_
            refine pu 9 24 (bl 18 1023) ?_
            refine pu 10 25 (bl 18 2047) ?_
            refine pu 11 26 (bl 18 4095) ?_
            refine pu 13 28 (bl 18 12287) ?_
            refine tk 12 27 (bl 18 16383) ?_ hHeld
            refine tk 14 29 (bl 18 32767) ?_ hHeld
            refine pu 15 30 (bl 18 65535) ?_
            refine pu 16 31 (bl 18 131071) ?_
            refine pu 17 32 (bl 18 262143) ?_
            refine done_ (done_of HT_.out (by kernel_rfl)) ?_
            try go_wp2
            go_ret
            exact ⟨by first | rfl | (simp [errW_none, errW_some] <;> rfl) | (simp only [← hji9]; first | rfl | (simp [errW_none, errW_some] <;> rfl)) | (simp [*, errW_none, errW_some] <;> rfl), bq⟩
          ·rw [if_neg c11] at H
           exact absurd H (by simp)
         ·rw [if_neg c10] at H
          exact absurd H (by simp)
        ·rw [if_neg c8] at H
         have c8b0 : decide (0 < x10_1) = false := decide_eq_false c8
         clear c8
         have H' := Aside0.mk H
         clear H
         have p315 : 0 ≤ (x10_1 : Int) := od
         have q315 : x10_1 < (l0.length : Int) := od
         obtain ⟨ad315, A315_1, c315_1, e315, hx315_0, hx315_1, hl315_1, hi315_1⟩ := at_T42 HR0.out x10_1 p315 q315
         cases e315
         replace hx315_0 := hc HB hx315_0
         replace hx315_1 := hc HB hx315_1
         have HR315_1 := Aside0.mk hi315_1
         have HC315_1 := Aside0.mk hl315_1
         clear hi315_1 hl315_1
         replace p315 := eq_true p315
         replace q315 := eq_true q315
         try go_wp2_with (first | ((with_reducible refine gate_dst (N := 4) rfl ?_); refine be 4 #[.string (⟨#[]⟩ : ByteArray), .slice none 0 0] 42 ?_; intro gb316 hg w23 hbox hb; have _ := bs hb; have _ := ra (hbox); have _ := bz (w0 := w) hg; have _ := bz (w0 := w) hg; clear HB; rename_i HB BK316 GW316 GE316; clear hb hbox hg; obtain ⟨hcz24_0, hcz24_1, hfz24_0, hfz24_1⟩ := zc2 BK316))
         have n0 : Aside0 (((w23.setCell ⟨gb316, 0, none⟩ (.string ((rd_T42 l0 x10_1).f0))).setCell ⟨gb316, 1, none⟩ (.slice A315_1 ((rd_T42 l0 x10_1).f1).length c315_1)).heap[gb316]? = some (.cells #[.string ((rd_T42 l0 x10_1).f0), .slice A315_1 ((rd_T42 l0 x10_1).f1).length c315_1] 42 (0, 0))) := ⟨bp BK316⟩
         have n1 : Aside0 (Below w.heap.size w ((w23.setCell ⟨gb316, 0, none⟩ (.string ((rd_T42 l0 x10_1).f0))).setCell ⟨gb316, 1, none⟩ (.slice A315_1 ((rd_T42 l0 x10_1).f1).length c315_1))) := ⟨bq⟩
         (try clear BK316)
         (try clear HB)
         generalize ((w23.setCell ⟨gb316, 0, none⟩ (.string ((rd_T42 l0 x10_1).f0))).setCell ⟨gb316, 1, none⟩ (.slice A315_1 ((rd_T42 l0 x10_1).f1).length c315_1)) = w25 at n0 n1 ⊢
         have BK316 := n0
         have HB := n1
         clear n0 n1
         have _ := ra (blk_drew BK316.out)
         have _ := ra (below_drew1 HB.out)
         clear BK316 HB
         rename_i BK316 HB
         refine start_ (n := 18) (S := fun w' => w'.cell? ⟨gb316, 0, none⟩ = some (.string ((rd_T42 l0 x10_1).f0)) ∧ w'.cell? ⟨gb316, 1, none⟩ = some (.slice A315_1 ((rd_T42 l0 x10_1).f1).length c315_1)) (ds := []) (bl 18 0) (by kernel_rfl) rfl rfl ⟨(blk_cell BK316.out 0).trans rfl, (blk_cell BK316.out 1).trans rfl⟩ (fun hHeld => ?_); refine with_tabW impl_ProbeSkyOk.tab6 impl_ProbeSkyOk.bits6 (fun HT_ HW_ => ?_)
         generalize w25.drew = w26 at BK316 HB hHeld ⊢
         refine tk 0 15 (bl 18 1) ?_ hHeld
         refine oe 1 16 (bl 18 3) (fun K hK => ?_)
         refine gs Try.func31 #[.agg #[.string ((rd_T42 l0 x10_1).f0), .slice A315_1 ((rd_T42 l0 x10_1).f1).length c315_1]] ?_
         with_reducible refine (impl_ProbeTubeOk.calls k1 ((rd_T42 l0 x10_1).f0) _ _ ((rd_T42 l0 x10_1).f1) true _ ?side1 ?side2 A6.out).mono ?_
         (case side1 => exact sc HR315_1)
         (case side2 => exact HC315_1.out)
         rintro e w27 ⟨rfl, hb⟩
         refine ⟨_, rfl, ?_⟩
         have _ := bb (bk BK316) hb
         have _ := bs hb
         clear BK316 HB
         rename_i BK316 HB
         (try clear hb)
         (try clear hb2)
         (try clear hk)
         (try clear hi)
         refine hK.out _ _ ⟨(blk_cell BK316.out 0).trans rfl, (blk_cell BK316.out 1).trans rfl⟩ (fun hHeld => ?_)
         clear hK K
         refine nm 16 ?_
         refine pu 2 17 (bl 18 7) ?_
         refine pu 3 18 (bl 18 15) ?_
         refine pu 4 19 (bl 18 31) ?_
         refine pu 5 20 (bl 18 63) ?_
         refine pu 6 21 (bl 18 127) ?_
         refine pv 7 22 (bl 18 255) ?_
         refine pv 8 23 (bl 18 511) ?_
         refine pv 9 24 (bl 18 1023) ?_
         refine pv 10 25 (bl 18 2047) ?_
         refine pv 11 26 (bl 18 4095) ?_
         refine pv 12 27 (bl 18 8191) ?_
         refine pv 13 28 (bl 18 16383) ?_
         refine pv 14 29 (bl 18 32767) ?_
         refine pv 15 30 (bl 18 65535) ?_
         refine pu 16 31 (bl 18 131071) ?_
         refine pu 17 32 (bl 18 262143) ?_
         refine done_ (done_of HT_.out (by kernel_rfl)) ?_
         try go_wp2
         go_roundg k1
         case measure => have := HK1.out; omega
         case rel => exact ⟨(wrap64 (x10_1 + 1)), rs, H', ⟨by have := HK1.out; omega⟩, ⟨bq⟩⟩
       ·replace c7 := Bool.eq_false_iff.mpr c7
        subst c7
        have H1 : (some false) = some r := by rw [if_neg (show ¬ (false = true) by decide)] at H; exact H
        clear H
        have H := H1
        clear H1
        obtain rfl := Option.some.inj H
        have p315 : 0 ≤ (x10_1 : Int) := od
        have q315 : x10_1 < (l0.length : Int) := od
        obtain ⟨ad315, A315_1, c315_1, e315, hx315_0, hx315_1, hl315_1, hi315_1⟩ := at_T42 HR0.out x10_1 p315 q315
        cases e315
        replace hx315_0 := hc HB hx315_0
        replace hx315_1 := hc HB hx315_1
        have HR315_1 := Aside0.mk hi315_1
        have HC315_1 := Aside0.mk hl315_1
        clear hi315_1 hl315_1
        replace p315 := eq_true p315
        replace q315 := eq_true q315
        try go_wp2_with (first | ((with_reducible refine gate_dst (N := 4) rfl ?_); refine be 4 #[.string (⟨#[]⟩ : ByteArray), .slice none 0 0] 42 ?_; intro gb316 hg w28 hbox hb; have _ := bs hb; have _ := ra (hbox); have _ := bz (w0 := w) hg; have _ := bz (w0 := w) hg; clear HB; rename_i HB BK316 GW316 GE316; clear hb hbox hg; obtain ⟨hcz29_0, hcz29_1, hfz29_0, hfz29_1⟩ := zc2 BK316))
        have n0 : Aside0 (((w28.setCell ⟨gb316, 0, none⟩ (.string ((rd_T42 l0 x10_1).f0))).setCell ⟨gb316, 1, none⟩ (.slice A315_1 ((rd_T42 l0 x10_1).f1).length c315_1)).heap[gb316]? = some (.cells #[.string ((rd_T42 l0 x10_1).f0), .slice A315_1 ((rd_T42 l0 x10_1).f1).length c315_1] 42 (0, 0))) := ⟨bp BK316⟩
        have n1 : Aside0 (Below w.heap.size w ((w28.setCell ⟨gb316, 0, none⟩ (.string ((rd_T42 l0 x10_1).f0))).setCell ⟨gb316, 1, none⟩ (.slice A315_1 ((rd_T42 l0 x10_1).f1).length c315_1))) := ⟨bq⟩
        (try clear BK316)
        (try clear HB)
        generalize ((w28.setCell ⟨gb316, 0, none⟩ (.string ((rd_T42 l0 x10_1).f0))).setCell ⟨gb316, 1, none⟩ (.slice A315_1 ((rd_T42 l0 x10_1).f1).length c315_1)) = w30 at n0 n1 ⊢
        have BK316 := n0
        have HB := n1
        clear n0 n1
        have _ := ra (blk_drew BK316.out)
        have _ := ra (below_drew1 HB.out)
        clear BK316 HB
        rename_i BK316 HB
        refine start_ (n := 18) (S := fun w' => w'.cell? ⟨gb316, 0, none⟩ = some (.string ((rd_T42 l0 x10_1).f0)) ∧ w'.cell? ⟨gb316, 1, none⟩ = some (.slice A315_1 ((rd_T42 l0 x10_1).f1).length c315_1)) (ds := []) (bl 18 0) (by kernel_rfl) rfl rfl ⟨(blk_cell BK316.out 0).trans rfl, (blk_cell BK316.out 1).trans rfl⟩ (fun hHeld => ?_); refine with_tabW impl_ProbeSkyOk.tab6 impl_ProbeSkyOk.bits6 (fun HT_ HW_ => ?_)
        generalize w30.drew = w31 at BK316 HB hHeld ⊢
        refine tk 0 15 (bl 18 1) ?_ hHeld
        refine oe 1 16 (bl 18 3) (fun K hK => ?_)
        refine gs Try.func31 #[.agg #[.string ((rd_T42 l0 x10_1).f0), .slice A315_1 ((rd_T42 l0 x10_1).f1).length c315_1]] ?_
        with_reducible refine (impl_ProbeTubeOk.calls k1 ((rd_T42 l0 x10_1).f0) _ _ ((rd_T42 l0 x10_1).f1) false _ ?side1 ?side2 A6.out).mono ?_
        (case side1 => exact sc HR315_1)
        (case side2 => exact HC315_1.out)
        rintro e w32 ⟨rfl, hb⟩
        refine ⟨_, rfl, ?_⟩
        have _ := bb (bk BK316) hb
        have _ := bs hb
        clear BK316 HB
        rename_i BK316 HB
        (try clear hb)
        (try clear hb2)
        (try clear hk)
        (try clear hi)
        refine hK.out _ _ ⟨(blk_cell BK316.out 0).trans rfl, (blk_cell BK316.out 1).trans rfl⟩ (fun hHeld => ?_)
        clear hK K
        refine nm 16 ?_
        refine pu 2 17 (bl 18 7) ?_
        refine pu 3 18 (bl 18 15) ?_
        refine pv 4 19 (bl 18 31) ?_
        refine pv 5 20 (bl 18 63) ?_
        refine pv 6 21 (bl 18 127) ?_
        refine pv 7 22 (bl 18 255) ?_
        refine pv 8 23 (bl 18 511) ?_
        refine pv 9 24 (bl 18 1023) ?_
        refine pv 10 25 (bl 18 2047) ?_
        refine pv 11 26 (bl 18 4095) ?_
        refine pv 12 27 (bl 18 8191) ?_
        refine pv 13 28 (bl 18 16383) ?_
        refine pv 14 29 (bl 18 32767) ?_
        refine pv 15 30 (bl 18 65535) ?_
        refine pv 16 31 (bl 18 131071) ?_
        refine pu 17 32 (bl 18 262143) ?_
        refine done_ (done_of HT_.out (by kernel_rfl)) ?_
        try go_wp2
        go_ret
        exact ⟨re, bq⟩
      ·rw [if_neg c5] at H
       exact absurd H (by simp)
     ·rw [if_neg c4] at H
      exact absurd H (by simp)
    ·rw [if_neg c3] at H
     have c3b0 : decide (x10_1 < (l0.length : Int)) = false := decide_eq_false c3
     clear c3
     obtain rfl := Option.some.inj H
     go_wp2
     go_ret
     exact ⟨re, bq⟩
end Go.Proofs.Ytgklmafdbgnohaa.PA
end
section
namespace Go.Proofs.Ytgklmafdbgnohaa.PA
open Go.RowKit Go.Proofs.YtgklmafdbgnohaaW.PrintWords Go.Proofs.YtgklmafdbgnohaaW.PrintLast Go.Proofs.YtgklmafdbgnohaaW.PrintMore Go.Proofs.Ytgklmafdbgnohaa.Z Go.Proofs.Ytgklmafdbgnohaa.Ik Go.Proofs.Ytgklmafdbgnohaa.Ix Go.Proofs.Ytgklmafdbgnohaa.Il Go.Proofs.Ytgklmafdbgnohaa.Iw Go.Proofs.Ytgklmafdbgnohaa.Ir Go.Proofs.Ytgklmafdbgnohaa.Is Go.Proofs.Ytgklmafdbgnohaa.It
set_option linter.unusedVariables false
set_option linter.unusedSimpArgs false
set_option maxHeartbeats 8000000 in
set_option maxRecDepth 100000 in
theorem impl_ProbeIndexOf.calls (k : Nat) (A0 : Option Addr) (c0 : Nat) (l0 : List S42) (r : List S56) (w : World) (hr0 : Kd.C k42 w A0 l0.length l0) (hc0 : l0.length ≤ c0) (h : impl_ProbeIndexOf.f k l0 = some r) :
  Calls Try.prog 7 #[.slice A0 l0.length c0] w fun e w' => ∃ v0_ : Value, e = .returned (.agg #[v0_]) ∧ Kd.S k56 56 w' w.heap.size (fun _ => True) v0_ r ∧ Below w.heap.size w w' := by
 have hu26 := Try.underlying26
 have hu42 := Try.underlying42
 have hu45 := Try.underlying45
 have hu49 := Try.underlying49
 have hu52 := Try.underlying52
 have hu56 := Try.underlying56
 have HR0 := Aside0.mk hr0
 have HC0 := Aside0.mk hc0
 clear hr0 hc0
 have HB := ra (Below.refl w.heap.size w)
 have H : ((impl_ProbeSkyOk.f k l0).bind fun t322 => (if t322 = true then ((Ix.impl l0).bind fun t323 => (some t323)) else (some ([] : List (S56))))) = some r := h
 clear h
 obtain ⟨t322, A2, H⟩ := bo H
 by_cases c3 : t322 = true
 · subst c3
   replace H := it H rfl
   obtain ⟨t323, A4, H⟩ := bo H
   obtain rfl := Option.some.inj H
   have hlim : Aside0 (Small l0 ∧ fin ((evT l0).foldl putM []) = some t323) := by
    have h := A4.out
    unfold Ix.impl at h
    split at h
    · exact ⟨by assumption, h⟩
    · cases h
   clear H A4
   go_enter Try.func7, Try.ntmps7
   go_upto_block 0 with (first | ((with_reducible refine gate_dst (N := 2) rfl ?_); refine be 2 #[.slice none 0 0] 26 ?_; intro gb hg w5 hbox hb; have _ := bs hb; have _ := ra (hbox); have _ := bz (w0 := w) hg; clear HB; rename_i HB BK GE; clear hb hbox hg) | ((with_reducible refine gate_callee (f := 17) rfl ?_); refine gl (some 13) Try.func17 #[.slice A0 l0.length c0] ?_; (with_reducible refine (impl_ProbeSkyOk.calls k _ _ l0 true _ ?side1 ?side2 A2.out).mono ?_); (case side1 => exact sc HR0); (case side2 => exact HC0.out); rintro e w6 ⟨rfl, hb⟩; refine ⟨_, rfl, ?_⟩; have _ := bb (bk BK) hb; have _ := bs hb; clear BK HB; rename_i BK HB; clear hb) | ((with_reducible refine gate_dst (N := 16) rfl ?_); refine Mq.mk_event rfl rfl ?_; intro gm hgm w7 hbm hb; have HM := ra (show MI w gm gb [] [] w7 from ⟨hbm, Mq.rows_nil _ _, blk_below BK.out hb, below_step HB.out hb, by rw [hgm]; exact below_size HB.out, GE.out⟩); clear hb hbm hgm))
   clear BK HB
   go_cut [] (fun wc => ∃ V : Mq.MV, Aside0 (MI w gm gb V ((evT l0).foldl putM []) wc))
   case first =>
    go_wp2_with fail
    go_loopg [19] l0.length (fun kx s19 wr => ∃ (x : Int) (i : Nat) (V : Mq.MV), s19 = .int .i64 x ∧ Aside0 (x = i ∧ i ≤ l0.length ∧ l0.length - i ≤ kx) ∧ Aside0 (MI w gm gb V ((evT (l0.take i)).foldl putM []) wr))
    case atStart => exact ⟨0, 0, [], rfl, ⟨rfl, Nat.zero_le _, Nat.le_refl _⟩, HM⟩
    case round =>
     clear HM
     obtain ⟨x, i, V, rfl, HX, HM⟩ := hrel
     by_cases hlt : i < l0.length
     · have hxz : x < (l0.length : Int) := by have := HX.out.1; omega
       have hx0 : 0 ≤ x := by have := HX.out.1; omega
       obtain ⟨ad, A1, c1, e, ht0, ht1, hl1, hC1⟩ := at_T42 HR0.out x hx0 hxz
       replace ht0 := hc (ra HM.out.bl) ht0
       replace ht1 := hc (ra HM.out.bl) ht1
       have HC1 := Aside0.mk hC1
       have HL1 := Aside0.mk hl1
       clear hl1 hC1
       cases e
       have hx0' := eq_true hx0
       have hxz' := eq_true hxz
       have hTU : Aside0 (rd_T42 l0 x = l0[i]) := ⟨by rw [HX.out.1]; unfold rd_T42; simp [hlt]⟩
       generalize rd_T42 l0 x = tu at ht0 ht1 HC1 HL1 hTU
       go_upto_block 2 with (first | ((with_reducible refine gate_dst (N := 5) rfl ?_); refine be 5 #[.string ⟨#[]⟩, .slice none 0 0] 42 ?_; intro gt hgt w8 hbt hb; have HT := ra hbt; have HMB := ra (show MB w gm gb V _ gt 42 w8 from ⟨HM.out.below hb, ⟨_, hbt⟩, by decide, by rw [hgt]; exact below_size HM.out.bl⟩); obtain ⟨ht2, ht3, ht4, ht5⟩ := zc2 HT; clear hb hbt hgt))
       obtain ⟨w9, hw9⟩ : ∃ w9 : World, w9 = (w8.setCell ⟨gt, 0, none⟩ (.string tu.f0)).setCell ⟨gt, 1, none⟩ (.slice A1 tu.f1.length c1) := ⟨_, rfl⟩
       rw [← hw9]
       have HT9 : Aside0 (w9.heap[gt]? = some (.cells #[.string tu.f0, .slice A1 tu.f1.length c1] 42 (0, 0))) := ⟨by rw [hw9]; exact Z.bp HT⟩
       have HM9 : Aside0 (MB w gm gb V _ gt 42 w9) := ⟨by rw [hw9]; exact (HMB.out.put _ _).put _ _⟩
       clear hw9 HT HMB ht2 ht3 ht4 ht5 ht0 ht1 HM
       go_wp2_with fail
       go_loopg [26] tu.f1.length (fun kx s26 wr2 => ∃ (y : Int) (j : Nat) (V2 : Mq.MV), s26 = .int .i64 y ∧ Aside0 (y = j ∧ j ≤ tu.f1.length ∧ tu.f1.length - j ≤ kx) ∧ Aside0 (MB w gm gb V2 ((evB tu.f0 0 (tu.f1.take j)).foldl putM ((evT (l0.take i)).foldl putM [])) gt 42 wr2) ∧ Aside0 (wr2.heap[gt]? = some (.cells #[.string tu.f0, .slice A1 tu.f1.length c1] 42 (0, 0))))
       case atStart => exact ⟨0, 0, V, rfl, ⟨rfl, Nat.zero_le _, Nat.le_refl _⟩, HM9, HT9⟩
       case round =>
        clear HM9 HT9
        obtain ⟨y, j, V2, rfl, HY, HM, HT⟩ := hrel
        by_cases hlt2 : j < tu.f1.length
        · have hyz : y < (tu.f1.length : Int) := by have := HY.out.1; omega
          have hy0 : 0 ≤ y := by have := HY.out.1; omega
          obtain ⟨ad2, e, hb0, hb1, hb2, hb3, hb4, hb5⟩ := at_T45 HC1.out y hy0 hyz
          cases e
          replace hb0 := hc (ra HM.out.i.bl) hb0
          replace hb1 := hc (ra HM.out.i.bl) hb1
          replace hb2 := hc (ra HM.out.i.bl) hb2
          replace hb3 := hc (ra HM.out.i.bl) hb3
          replace hb4 := hc (ra HM.out.i.bl) hb4
          replace hb5 := hc (ra HM.out.i.bl) hb5
          have hBX : Aside0 (rd_T45 tu.f1 y = tu.f1[j]) := ⟨by rw [HY.out.1]; unfold rd_T45; simp [hlt2]⟩
          generalize rd_T45 tu.f1 y = bx at hb0 hb1 hb2 hb3 hb4 hb5 hBX
          have hy0' := eq_true hy0
          have hyz' := eq_true hyz
          go_upto_region 10 with (first | ((with_reducible refine gate_dst (N := 7) rfl ?_); refine be 7 #[.int .i64 0, .int .i64 0, .int .i64 0, .int .i64 0, .int .i64 0, .int .i64 0] 45 ?_; intro g7 hg7 w10 hbt hb; have HB7 := ra hbt; have HM7 := ra (show MB w gm gb V2 _ g7 45 w10 from ⟨HM.out.i.below hb, ⟨_, hbt⟩, by decide, by rw [hg7]; exact below_size HM.out.i.bl⟩); have HT7 := bb HT.out hb; have N7 := bn hg7 HT.out; obtain ⟨hz0, hz1, hz2, hz3, hz4, hz5, hf0, hf1, hf2, hf3, hf4, hf5⟩ := zc6 HB7; clear hb hbt hg7))
          obtain ⟨w11, hw11⟩ : ∃ w11 : World, w11 = (((((w10.setCell ⟨g7, 0, none⟩ (.int .i64 bx.f0)).setCell ⟨g7, 1, none⟩ (.int .i64 bx.f1)).setCell ⟨g7, 2, none⟩ (.int .i64 bx.f2)).setCell ⟨g7, 3, none⟩ (.int .i64 bx.f3)).setCell ⟨g7, 4, none⟩ (.int .i64 bx.f4)).setCell ⟨g7, 5, none⟩ (.int .i64 bx.f5) := ⟨_, rfl⟩
          rw [← hw11]
          have HB8 : Aside0 (w11.heap[g7]? = some (.cells #[.int .i64 bx.f0, .int .i64 bx.f1, .int .i64 bx.f2, .int .i64 bx.f3, .int .i64 bx.f4, .int .i64 bx.f5] 45 (0, 0))) := ⟨by rw [hw11]; exact Z.bp HB7⟩
          have HM8 : Aside0 (MB w gm gb V2 _ g7 45 w11) := ⟨by rw [hw11]; exact (((((HM7.out.put _ _).put _ _).put _ _).put _ _).put _ _).put _ _⟩
          have HT8 : Aside0 (w11.heap[gt]? = some (.cells #[.string tu.f0, .slice (some ad2) tu.f1.length c1] 42 (0, 0))) := ⟨by rw [hw11]; exact Z.bk HT7⟩
          have HMT : Aside0 (w.heap.size ≤ gt) := ⟨HM.out.hb⟩
          clear hw11 HB7 HM7 HT7 N7 HM HT hz0 hz1 hz2 hz3 hz4 hz5 hf0 hf1 hf2 hf3 hf4 hf5 hb0 hb1 hb2 hb3 hb4 hb5
          obtain ⟨hz0, hz1, hz2, hz3, hz4, hz5, hf0, hf1, hf2, hf3, hf4, hf5⟩ := zc6 HB8
          clear hy0' hyz' hx0' hxz'
          go_upto_region 11 with fail
          obtain ⟨g8, hg8⟩ : ∃ g8 : Nat, g8 = w11.heap.size := ⟨_, rfl⟩
          obtain ⟨w12, hw12⟩ : ∃ w12 : World, w12 = w11.alloc (.cells #[.int .i64 bx.f0, .int .i64 bx.f1] 49) := ⟨_, rfl⟩
          rw [← hw12, ← hg8]
          have HS9 : Aside0 (w12.heap[g8]? = some (.cells #[.int .i64 bx.f0, .int .i64 bx.f1] 49 (0, 0))) := ⟨by rw [hw12, hg8]; exact (Go.MapKept.heap_alloc w11 _).1⟩
          have hb12 : Below w11.heap.size w11 w12 := by rw [hw12]; exact below_alloc (Below.refl _ _) _
          have HM9 : Aside0 (MI w gm gb V2 _ w12) := ⟨HM8.out.i.below hb12⟩
          have HT9 := bb HT8.out hb12
          have HB9 := bb HB8.out hb12
          have hkey : Mq.qidx (bx.f0, bx.f1) V2 = Mq.qidx (bx.f0, bx.f1) _ := Mq.idx_keys HM9.out.r.1
          have HK := ra hkey
          clear hkey
          clear hw12 hg8 hb12 HB8 HM8 HT8 hz0 hz1 hz2 hz3 hz4 hz5 hf0 hf1 hf2 hf3 hf4 hf5
          have HS : Aside0 (∀ c, (Mq.mval c ((evB tu.f0 0 (tu.f1.take j)).foldl putM ((evT (l0.take i)).foldl putM []))).length ≤ 1000000) := ⟨fun c => Nat.le_trans (mval_le c _) (by rw [← List.foldl_append, sum_fold]; have := evT_pre l0 i j hlt; rw [← hTU.out] at this; have := hlim.out.1.1; simp [sumM] at *; omega)⟩
          generalize hM2 : (evB tu.f0 0 (tu.f1.take j)).foldl putM ((evT (l0.take i)).foldl putM []) = M2 at HM9 HK HS
          have HE2 := ra hM2
          clear hM2
          obtain ⟨hz0, hz1, hz2, hz3, hz4, hz5, hf0, hf1, hf2, hf3, hf4, hf5⟩ := zc6 HB9
          obtain ⟨kz0, kz1, kf0, kf1⟩ := zc2 HS9
          obtain ⟨kt0, kt1, kt2, kt3⟩ := zc2 HT9
          clear hf0 hf1 hf2 hf3 hf4 hf5 kf0 kf1 kt2 kt3
          go_upto_region 12 with (first | ((with_reducible refine gate_dst (N := 51) rfl ?_); refine Kd.R_lit k52 (w0 := w) w.heap.size 52 ?hg (N := 51) ?hd (xs := [(⟨bx.f4, bx.f5, bx.f2, bx.f3, tu.f0, y⟩ : S52)]) (inner := [.int .i64 bx.f4, .int .i64 bx.f5, .int .i64 bx.f2, .int .i64 bx.f3, .string tu.f0, .int .i64 y]) (ok := fun _ => True) (okp := fun _ => True) ?hr ?hp (fun _ hk => hk) trivial HM9.out.bl (below_size HM9.out.bl) (by simp) ?_; (case hd => rfl); (case hg => rfl); (case hr => first | (go_simp; done) | (go_simp; rfl)); (case hp => exact (Reps.c6 (show Kd.M k52 _ _ _ (⟨bx.f4, bx.f5, bx.f2, bx.f3, tu.f0, y⟩ : S52) [.int .i64 bx.f4, .int .i64 bx.f5, .int .i64 bx.f2, .int .i64 bx.f3, .string tu.f0, .int .i64 y] from (k52_mkM _ _ _ (⟨bx.f4, bx.f5, bx.f2, bx.f3, tu.f0, y⟩ : S52))) (Reps.none _ _))); intro v51 w13 ho51 hb51 hg51 hn51) | ((with_reducible refine gate_dst (N := 52) rfl ?_); refine Mq.ent_event rfl (.tmp 36) (.tmp 37) rfl (bx.f0, bx.f1) rfl rfl ((HM9.out.keepG hg51).m) ?_; intro w14 hm14 hg14; have HM14 := (HM9.out.keepG hg51).ent (bx.f0, bx.f1) hm14 hg14; have HR14 := (HM9.out.keepG hg51).row (bx.f0, bx.f1) hg14) | ((with_reducible refine gate_dst (N := 53) rfl ?_); obtain ⟨A51, c51, hv51⟩ := Kd.R_slice ho51; subst hv51; refine Kd.R_append_rows k52 (Rr := k52.K w14) (w0 := w) w.heap.size rfl (.tmp 38) (.tmp 51) 50 52 _ _ rfl Try.underlying50 info52 rfl (by decide) (by decide) (Mq.qval (bx.f0, bx.f1) V2) (Mq.mval (bx.f0, bx.f1) M2) [(⟨bx.f4, bx.f5, bx.f2, bx.f3, tu.f0, y⟩ : S52)] A51 1 c51 (fun _ => True) (fun _ => False) rfl rfl HR14 (Kd.R_reads' ((HM9.out.keepG hg51).lit ho51 hg14)).2.2 (slot_KM w14 _) (fun _ hk => hk.elim) (fun _ _ => trivial) HM14.bl (below_size HM14.bl) (by have := HS.out (bx.f0, bx.f1); omega) ?_; intro v53 w15 ho53 hb53 hg53 hat53; have HA := HM14.app HK.out HR14 hg53 hat53 ho53) | (refine Mq.sto_event rfl (.tmp 36) (.tmp 54) (.tmp 53) rfl rfl (Mq.qidx (bx.f0, bx.f1) V2) v53 rfl rfl rfl HA.1 HA.2.1 ?_; intro w16 hm16 hg16))
          have HN := HA.2.2 w16 hm16 hg16
          have h13 := (HM9.out.keepG hg51)
          have t13 := (hg51.block gt (blk_lt HT9.out) (by simp)).trans HT9.out
          have t14 := h13.cells t13 hg14
          have t15 := row_cells HR14 t14 (by decide) hg53
          have t16 := (hg16.block gt (blk_lt t15) (fun e => by rw [Option.some.inj e, HA.1] at t15; cases t15)).trans t15
          clear hm14 hg14 hg51 hn51 hb51 ho51 HR14 HM14 ho53 hb53 hg53 hat53 HA hm16 hg16 h13 t13 t14 t15 hz0 hz1 hz2 hz3 hz4 hz5 kz0 kz1 kt0 kt1
          have HN := ra HN
          have HT16 := ra t16
          clear t16
          go_wp2_with fail
          go_roundg (tu.f1.length - (j + 1))
          case measure => have := HY.out.2.2; omega
          case rel =>
           have hts : tu.f1.length ≤ 1000000 := by rw [hTU.out]; exact hlim.out.1.2.2 _ (List.getElem_mem hlt)
           refine ⟨y + 1, j + 1, Mq.qset (Mq.qadd (bx.f0, bx.f1) V2) (Mq.qidx (bx.f0, bx.f1) V2) v53, by congr 1; unfold wrap64; omega, ⟨by have := HY.out.1; omega, by omega, Nat.le_refl _⟩, ?_, HT16⟩
           have e : (evB tu.f0 0 (tu.f1.take (j + 1))).foldl putM ((evT (l0.take i)).foldl putM []) = Mq.mapp M2 (bx.f0, bx.f1) ⟨bx.f4, bx.f5, bx.f2, bx.f3, tu.f0, y⟩ := by
            rw [evB_take _ _ _ _ hlt2, List.foldl_append, HE2.out, ← hBX.out, HY.out.1, Nat.zero_add]
            rfl
           rw [e]
           exact ⟨HN.out, ⟨_, HT16.out⟩, by decide, Nat.le_trans HMT.out (Nat.le_refl _)⟩
        · have hyz : ¬ (y < (tu.f1.length : Int)) := by have := HY.out.1; omega
          go_wp2_with fail
          go_roundg (l0.length - (i + 1))
          case measure => have := HX.out.2.2; omega
          case rel =>
           refine ⟨x + 1, i + 1, V2, by congr 1; unfold wrap64; have := HX.out; have := hlim.out.1.2.1; omega, ⟨by have := HX.out.1; omega, by omega, Nat.le_refl _⟩, ?_⟩
           have e : tu.f1.take j = tu.f1 := List.take_of_length_le (by omega)
           have e2 : (evT (l0.take (i + 1))).foldl putM [] = (evB tu.f0 0 tu.f1).foldl putM ((evT (l0.take i)).foldl putM []) := by rw [foldl_evT l0 i hlt, List.foldl_append, ← hTU.out]
           rw [e2]
           rw [e] at HM
           exact ⟨HM.out.i⟩
     · have hxz : ¬ (x < (l0.length : Int)) := by have := HX.out.1; omega
       go_wp2_with fail
       go_meet
       refine ⟨V, ?_⟩
       have e : l0.take i = l0 := List.take_of_length_le (by omega)
       rw [e] at HM
       exact HM
   case rest =>
    clear HM
    obtain ⟨V, HM⟩ := hcut
    have hne0 : Aside0 (∀ p ∈ (evT l0).foldl putM [], p.2 ≠ []) := ⟨fold_ne _ _ (by simp)⟩
    have hno : Aside0 ((((evT l0).foldl putM []).map Prod.fst).Nodup ∧ ∀ p ∈ (evT l0).foldl putM [], (p.2.map sk).Nodup) := by
     have h := hlim.out.2
     unfold fin at h
     split at h
     · exact ⟨by assumption⟩
     · cases h
    have hsum : Aside0 (sumM ((evT l0).foldl putM []) ≤ 1000000) := ⟨by rw [sum_fold]; have := hlim.out.1.1; simp [sumM]; omega⟩
    have hfin : Aside0 (fin ((evT l0).foldl putM []) = some t323) := ⟨hlim.out.2⟩
    clear hlim HR0 HC0 A2
    generalize (evT l0).foldl putM [] = M at HM hne0 hno hsum hfin
    go_upto_region 15 with (first | ((with_reducible refine gate_dst (N := 9) rfl ?_); refine be 9 #[.slice none 0 0] 26 ?_; intro go hgo w20 hbo hb; have HO := ra hbo; have HM2 := ra (HM.out.below hb); have NG := ra (show go ≠ gb from by rw [hgo]; exact Nat.ne_of_gt (blk_lt HM.out.b)); have LG := ra (show w.heap.size ≤ go from by rw [hgo]; exact below_size HM.out.bl); obtain ⟨ho0, ho1⟩ := zc1 HO; clear hb hbo hgo))
    obtain ⟨w21, hw21⟩ : ∃ w21 : World, w21 = w20.setCell ⟨go, 0, none⟩ (.slice none 0 0) := ⟨_, rfl⟩
    rw [← hw21]
    have HM3 : Aside0 (MI w gm gb V M w21) := ⟨by rw [hw21]; exact HM2.out.own HO.out (by decide) NG.out LG.out _ _⟩
    have HO3 : Aside0 (w21.heap[go]? = some (.cells #[.slice none 0 0] 26 (0, 0))) := ⟨by rw [hw21]; exact Z.bp HO⟩
    clear hw21 HM2 HO HM ho0 ho1
    go_upto_block 4 with (refine Mr.rng_event rfl (.tmp 58) rfl rfl HM3.out.m ?_; intro rr hrr w22 hbr hbelow)
    go_frame
    have HLS : Aside0 (LS w gm gb go rr V M #[] [] [] (.slice none 0 0) w22) := ⟨⟨by rw [msrt_nil]; exact HM3.out.below hbelow, hbr, blk_below HO3.out hbelow, Kd.R_nil _ _ _ _ _, LG.out, by rw [hrr]; exact below_size HM3.out.bl, NG.out⟩⟩
    clear hbr hbelow hrr HM3 HO3 NG LG
    go_wp2_with fail
    go_loopg [] V.length (fun kx wr => ∃ (seen : Array Nat) (vo : Value), Aside0 (seen.toList.Nodup ∧ (∀ i ∈ seen.toList, i < V.length) ∧ V.length - seen.size ≤ kx) ∧ Aside0 (LS w gm gb go rr V M seen seen.toList seen.toList vo wr))
    case atStart => exact ⟨#[], .slice none 0 0, ⟨by simp, by simp, by simp⟩, HLS⟩
    case round =>
     clear HLS
     obtain ⟨seen, vo, HS, HL⟩ := hrel
     go_wp2_with (first | (at_next; refine Mr.nxt_event (seen := seen) (V := V) rfl (.tmp 59) rfl rfl HL.out.it HL.out.i.m ?_ ?_))
     rotate_left
     · intro i cx cy v hV hi w23 hr23 hg23 hs23 hen
       have HL23 := HL.out.next hr23 hg23
       have hi' : i ∉ seen.toList := by simpa using hi
       have hlen := Mq.rows_len HL23.i.r
       have hVl : i < V.length := (List.getElem?_eq_some_iff.1 hV).1
       have hMl : i < M.length := by rw [hlen] at hVl; simpa [msrt] using hVl
       obtain ⟨q, hq⟩ : ∃ q, M[i]? = some q := ⟨M[i], List.getElem?_eq_getElem hMl⟩
       have hq' : (msrt M seen.toList)[i]? = some (q.1, q.2) := by rw [msrt_get, hq]; simp [hi']
       have hkey : q.1 = (cx, cy) := by
        have h := congrArg (fun l => l[i]?) HL23.i.r.1
        simp only [List.getElem?_map, hV, hq', Option.map_some, Option.some.injEq] at h
        exact h.symm
       have hrow : Kd.R k52 52 w23 w.heap.size (fun _ => True) v q.2 := Kd.R_mono (HL23.i.r.2.1 i _ _ hV hq') fun _ _ => trivial
       have hqm : q ∈ M := List.mem_of_getElem? hq
       obtain ⟨g, cap, hv⟩ : ∃ g cap, v = .slice (some ⟨g, 0, none⟩) q.2.length cap := by
        obtain ⟨hl, h⟩ := slots_own hrow
        rcases h with ⟨_, h⟩ | ⟨g, cap, _, h, _⟩
        · exact absurd (List.eq_nil_of_length_eq_zero h) (hne0.out q hqm)
        · exact ⟨g, cap, h⟩
       subst hv
       have HQ : Aside0 (M[i]? = some q ∧ q ∈ M ∧ q.1 = (cx, cy) ∧ V[i]? = some ((cx, cy), .slice (some ⟨g, 0, none⟩) q.2.length cap) ∧ i ∉ seen.toList ∧ i < V.length) := ⟨hq, hqm, hkey, hV, hi', hVl⟩
       have HLN := ra HL23
       have HRW := ra hrow
       replace hen : (Instr.entry (.pointer (some ⟨rr, 0, none⟩))).run Try.prog w23 = .ok (.tuple #[.agg #[.int .i64 cx, .int .i64 cy], .slice (some ⟨g, 0, none⟩) q.2.length cap]) w23 := hen
       clear hq hqm hkey hV hi hi' hVl hMl hlen hq' hrow HL23 HL hr23 hg23 hs23
       go_upto_region 18 with fail
       obtain ⟨b2, hb2⟩ : ∃ b2 : Nat, b2 = w23.heap.size + 1 := ⟨_, rfl⟩
       obtain ⟨b1, hb1⟩ : ∃ b1 : Nat, b1 = w23.heap.size := ⟨_, rfl⟩
       obtain ⟨w24, hw24⟩ : ∃ w24 : World, w24 = (w23.alloc (.cells #[.int .i64 cx, .int .i64 cy] 49)).alloc (.cells #[.slice (some ⟨g, 0, none⟩) q.2.length cap] 50) := ⟨_, rfl⟩
       rw [← hw24, ← hb2, ← hb1]
       have hB1 : w24.heap[b1]? = some (.cells #[.int .i64 cx, .int .i64 cy] 49 (0, 0)) := by rw [hw24, hb1]; exact blk_alloc (Go.MapKept.heap_alloc w23 _).1 _
       have hB2 : w24.heap[b2]? = some (.cells #[.slice (some ⟨g, 0, none⟩) q.2.length cap] 50 (0, 0)) := by
        have h := (Go.MapKept.heap_alloc (w23.alloc (.cells #[.int .i64 cx, .int .i64 cy] 49)) (.cells #[.slice (some ⟨g, 0, none⟩) q.2.length cap] 50)).1
        rw [show (w23.alloc (.cells #[.int .i64 cx, .int .i64 cy] 49)).heap.size = w23.heap.size + 1 by simp] at h
        rw [hw24, hb2]
        exact h
       have hb24 : Below w23.heap.size w23 w24 := by rw [hw24]; exact below_alloc (below_alloc (Below.refl _ _) _) _
       have hR24 := Kd.R_below HRW.out hb24
       have HL24 := HLN.out.below hb24
       have hgl : g < w23.heap.size := by
        obtain ⟨cs, hc⟩ := Kd.R_typed HRW.out g rfl
        exact blk_lt hc
       have hn1 : b1 ≠ g := by omega
       have hn2 : b2 ≠ g := by omega
       have hcz : w24.cell? ⟨b2, 0, none⟩ = some (.slice (some ⟨g, 0, none⟩) q.2.length cap) := (blk_cell hB2 0).trans rfl
       have hql : q.2.length ≤ 1000000 := Nat.le_trans (mem_sum HQ.out.2.1) hsum.out
       have hC := sortS (by omega) (hno.out.2 q HQ.out.2.1) hR24 hcz hn2
       clear hb2 hb1 hw24 hb24 hen hgl
       have K1 := ra hB1
       have K2 := ra hB2
       have K3 := ra hR24
       have K4 := ra HL24
       have K5 := ra hn1
       have K6 := ra hn2
       have K7 := ra hC
       clear hB1 hB2 hR24 HL24 hn1 hn2 hC HLN HRW
       go_upto_region 19 with ((with_reducible refine gate_callee (f := 18) rfl ?_); refine gl (some 68) Try.func18 #[.iface 50 (.slice (some ⟨g, 0, none⟩) q.2.length cap), .func (.func 19) #[] #[.pointer (some ⟨b2, 0, none⟩)]] ?_; (with_reducible refine K7.out.mono ?_); rintro e w25 ⟨rfl, hg25, hr25⟩; refine ⟨_, rfl, ?_⟩)
       have HL25 := ra (K4.out.sort HQ.out.2.2.2.2.1 HQ.out.2.2.2.1 HQ.out.1 hg25 hr25)
       have C1 : Aside0 (w25.heap[b1]? = some (.cells #[.int .i64 cx, .int .i64 cy] 49 (0, 0))) := ⟨(hg25.block b1 (blk_lt K1.out) (by simpa using K5.out)).trans K1.out⟩
       have C2 : Aside0 (w25.heap[b2]? = some (.cells #[.slice (some ⟨g, 0, none⟩) q.2.length cap] 50 (0, 0))) := ⟨(hg25.block b2 (blk_lt K2.out) (by simpa using K6.out)).trans K2.out⟩
       have C3 := ra HL25.out.o
       clear hg25 hr25 K1 K2 K3 K4 K5 K6 K7 hcz
       obtain ⟨ca1, ca2, _, _⟩ := zc2 C1
       obtain ⟨cb1, _⟩ := zc1 C2
       obtain ⟨co1, _⟩ := zc1 C3
       have hlm : V.length = M.length := by have := Mq.rows_len HL25.out.i.r; simpa [msrt] using this
       have hss : seen.size < V.length := by have := len_lt HS.out.1 HS.out.2.1 HQ.out.2.2.2.2.1 HQ.out.2.2.2.2.2; simpa using this
       have HV : Aside0 (V.length ≤ 1000000 ∧ seen.size < V.length) := ⟨by have := len_sum hne0.out; have := hsum.out; omega, hss⟩
       clear hlm hss
       go_upto_block 100 with ((with_reducible refine gate_dst (N := 78) rfl ?_); refine Kd.R_append (Kd.raw 3) (w0 := w) w.heap.size rfl (.tmp 70) (.tmp 77) 24 56 _ _ rfl Try.underlying24 info56 rfl (by decide) (by decide) vo (seen.toList.map fun i => encC (tri V M i)) [.int .i64 cx, .int .i64 cy, .slice (some ⟨g, 0, none⟩) q.2.length cap] [.int .i64 cx, .int .i64 cy, .slice (some ⟨g, 0, none⟩) q.2.length cap] (fun _ => True) (fun k => True ∧ some k ≠ vo.ownBlock) rfl rfl ⟨rfl, rfl, by intro u hu; simp at hu; rcases hu with rfl | rfl | rfl <;> rfl⟩ (fun _ hk => hk) (fun _ _ => trivial) HL25.out.row HL25.out.i.bl (below_size HL25.out.i.bl) (by have := HV.out; simp; omega) ?_; intro v78 w26 ho78 hb78 hg78 hat78; obtain ⟨A78, c78, hv78⟩ := Kd.R_slice ho78; subst hv78; have HA := HL25.out.app hg78 ho78; have HG := ra HA.1; obtain ⟨cg, cf⟩ := zc1 HG)
       have HN := HA.2 (seen.push i).toList (by rw [Array.toList_push, List.map_append, List.map_singleton, enc_tri HQ.out.2.2.2.1])
       rw [← Array.toList_push] at HN
       have hz : (List.map (fun i => encC (tri V M i)) seen.toList ++ [[Value.int .i64 cx, Value.int .i64 cy, Value.slice (some ⟨g, 0, none⟩) q.2.length cap]]).length = seen.size + 1 := by simp
       rw [hz] at HN
       have HN := ra HN
       have hi' := HQ.out.2.2.2.2.1
       have hiV := HQ.out.2.2.2.2.2
       go_roundg (V.length - (seen.size + 1))
       case measure => have := HS.out.2.2; have := HV.out.2; omega
       case rel =>
        refine ⟨seen.push i, .slice A78 (seen.size + 1) c78, ⟨?_, ?_, by simp⟩, HN⟩
        · rw [Array.toList_push]
          exact List.nodup_append.2 ⟨HS.out.1, by simp, fun a ha b hb => by
            rw [List.mem_singleton] at hb
            rintro rfl
            exact hi' (hb ▸ ha)⟩
        · intro j hj
          rw [Array.toList_push, List.mem_append, List.mem_singleton] at hj
          rcases hj with hj | rfl
          · exact HS.out.2.1 j hj
          · exact hiV
     · intro hall
       have hF := It.LS.fin HL.out HS.out.1 HS.out.2.1 (fun i hi => by simpa using hall i hi) hfin.out
       have hlD : (seen.toList.map (tri V M)).length ≤ 1000000000 := by
        have h1 := List.Nodup.length_le_of_subset (l₁ := seen.toList) (l₂ := List.range V.length) HS.out.1 (fun j hj => by simpa using HS.out.2.1 j hj)
        have hlm : V.length = M.length := by have := Mq.rows_len HL.out.i.r; simpa [msrt] using this
        have h2 := len_sum hne0.out
        have h3 := hsum.out
        simp at h1 ⊢
        omega
       obtain ⟨A, c, hv⟩ := Kd.R_slice HL.out.row
       obtain ⟨n, hn⟩ : ∃ n, n = (List.map (fun i => encC (tri V M i)) seen.toList).length := ⟨_, rfl⟩
       rw [← hn] at hv
       clear hn
       subst hv
       have hty : ∀ k, (Value.slice A n c).ownBlock = some k → ∃ cs, wr.heap[k]? = some (.cells cs 56 (0, 0)) := fun k hk => Kd.R_typed HL.out.row k hk
       have hC := sortAny hlD hF.2.1 hF.1 ((blk_cell HL.out.o 0).trans rfl) (fun e => by
        obtain ⟨cs, hc⟩ := hty go e.symm
        rw [HL.out.o] at hc
        injection hc with hc
        injection hc with _ hc
        exact absurd hc (by decide))
       have hob : ∀ k, (Value.slice A n c).ownBlock = some k → w.heap.size ≤ k := fun k hk => own_base hF.1 k hk
       have hF2 := hF.2.2
       have K1 := ra hC
       have K2 := ra hF2
       have K3 := ra hty
       have K4 := ra hob
       have hco : wr.cell? ⟨go, 0, none⟩ = some (.slice A n c) := (blk_cell HL.out.o 0).trans rfl
       clear hC hF2 hF hlD hty hob hall
       go_upto_region 21 with ((with_reducible refine gate_callee (f := 18) rfl ?_); refine gl (some 84) Try.func18 #[.iface 24 (.slice A n c), .func (.func 20) #[] #[.pointer (some ⟨go, 0, none⟩)]] ?_; (with_reducible refine K1.out.mono ?_); rintro e w27 ⟨rfl, hg27, ho27⟩; refine ⟨_, rfl, ?_⟩)
       have hS := K2.out _ hg27 ho27
       have hgo : w27.heap[go]? = some (.cells #[.slice A n c] 26 (0, 0)) := (hg27.block go (blk_lt HL.out.o) (fun e => by
        obtain ⟨cs, hc⟩ := K3.out go e.symm
        rw [HL.out.o] at hc
        injection hc with hc
        injection hc with _ hc
        exact absurd hc (by decide))).trans HL.out.o
       have hgb : w27.heap[gb]? = some (.cells #[.slice none 0 0] 26 (0, 0)) := (hg27.block gb (blk_lt HL.out.i.b) (fun e => by
        obtain ⟨cs, hc⟩ := K3.out gb e.symm
        rw [HL.out.i.b] at hc
        injection hc with hc
        injection hc with _ hc
        exact absurd hc (by decide))).trans HL.out.i.b
       have hbl : Below w.heap.size w w27 := HL.out.i.bl.grown hg27 HL.out.i.bl.size (fun j hj => K4.out j hj)
       have L1 := ra hS
       have L2 := ra hgo
       have L3 := ra hgb
       have L4 := ra hbl
       clear hS hgo hgb hbl hg27 ho27 K1 K2 K3 K4 hco
       obtain ⟨cg, cf⟩ := zc1 L2
       obtain ⟨cb, cbf⟩ := zc1 L3
       go_wp2_with fail
       have hW : (w27.setCell ⟨gb, 0, none⟩ (.slice A n c)).heap[gb]? = some (.cells #[.slice A n c] 26 (0, 0)) := Z.bp L3
       refine bodyPost_ret (results_cell_row rfl _ _ gb 26 #[.slice A n c] (0, 0) _ rfl hW Try.underlying26 rfl (by kernel_rfl)) rfl ?_
       exact ⟨_, re, Kd.S_mono (Kd.S_far (p := ⟨gb, 0, none⟩) (Kd.S_types L1.out L3.out (by decide)) (fun _ hk => hk.2) (.slice A n c)) (fun _ h_ => h_.1), below_set L4.out GE.out⟩
 · replace c3 := Bool.eq_false_iff.mpr c3
   subst c3
   have H1 : (some ([] : List (S56))) = some r := by rw [if_neg (show ¬ (false = true) by decide)] at H; exact H
   clear H
   have H := H1
   clear H1
   obtain rfl := Option.some.inj H
   go_enter Try.func7, Try.ntmps7
   go_wp2_with (first | ((with_reducible refine gate_dst (N := 2) rfl ?_); refine be 2 #[.slice none 0 0] 26 ?_; intro gb321 hg w10 hbox hb; have _ := bs hb; have _ := ra (hbox); have _ := bz (w0 := w) hg; have _ := bz (w0 := w) hg; clear HB; rename_i HB BK321 GW321 GE321; clear hb hbox hg) | ((with_reducible refine gate_callee (f := 17) rfl ?_); refine gl (some 13) Try.func17 #[.slice A0 l0.length c0] ?_; (with_reducible refine (impl_ProbeSkyOk.calls k _ _ l0 false _ ?side1 ?side2 A2.out).mono ?_); (case side1 => exact sc HR0); (case side2 => exact HC0.out); rintro e w11 ⟨rfl, hb⟩; refine ⟨_, rfl, ?_⟩; have _ := bb (bk BK321) hb; have _ := bs hb; clear BK321 HB; rename_i BK321 HB; (try clear hb); (try clear hb2); (try clear hk); (try clear hi); obtain ⟨hcz12_0, hfz12_0⟩ := zc1 BK321))
   refine bodyPost_ret (results_cell_row rfl _ _ gb321 26 #[.slice none 0 0] (0, 0) _ rfl (bp BK321) Try.underlying26 rfl (by kernel_rfl)) rfl ?_
   exact ⟨_, re, by first | exact Kd.S_nil _ _ _ _ _ | exact Kd.N_nil _ _ _ _ _, bq⟩
end Go.Proofs.Ytgklmafdbgnohaa.PA
end
section
namespace Go.Proofs.Ytgklmafdbgnohaa.PA
open Go.RowKit Go.Proofs.YtgklmafdbgnohaaW.PrintWords Go.Proofs.YtgklmafdbgnohaaW.PrintLast Go.Proofs.YtgklmafdbgnohaaW.PrintMore Go.Proofs.Ytgklmafdbgnohaa.Z
attribute [local go_sem] max2_int min2_int max_two min_two max_three min_three max_four min_four
set_option linter.unusedVariables false
set_option linter.unusedSimpArgs false
set_option maxHeartbeats 8000000 in
set_option maxRecDepth 100000 in
theorem laws_eqProbeSlot.calls (a0_0 : Int) (a0_1 : Int) (a0_2 : Int) (a0_3 : Int) (a0_4 : ByteArray) (a0_5 : Int) (a1_0 : Int) (a1_1 : Int) (a1_2 : Int) (a1_3 : Int) (a1_4 : ByteArray) (a1_5 : Int) (r : Bool) (w : World) (h : laws_eqProbeSlot.f a0_0 a0_1 a0_2 a0_3 a0_4 a0_5 a1_0 a1_1 a1_2 a1_3 a1_4 a1_5 = some r) :
  Calls Try.prog 74 #[.agg #[.int .i64 a0_0, .int .i64 a0_1, .int .i64 a0_2, .int .i64 a0_3, .string a0_4, .int .i64 a0_5], .agg #[.int .i64 a1_0, .int .i64 a1_1, .int .i64 a1_2, .int .i64 a1_3, .string a1_4, .int .i64 a1_5]] w fun e w' => e = .returned (.bool r) ∧ Below w.heap.size w w' := by
 have hu52 := Try.underlying52
 have HB := ra (Below.refl w.heap.size w)
 have H : (if a0_0 = a1_0 then (if a0_1 = a1_1 then (if a0_2 = a1_2 then (if a0_3 = a1_3 then (if a0_4.toList = a1_4.toList then (if a0_5 = a1_5 then (some true) else (some false)) else (some false)) else (some false)) else (some false)) else (some false)) else (some false)) = some r := h
 clear h
 by_cases c3 : a0_0 = a1_0
 ·rw [if_pos c3] at H
  have c3b0 : (a0_0 == a1_0) = true := beq_iff_eq.mpr c3
  have c3b1 : (a0_0 != a1_0) = false := bne_eq_false_iff_eq.mpr c3
  clear c3
  by_cases c4 : a0_1 = a1_1
  ·rw [if_pos c4] at H
   have c4b0 : (a0_1 == a1_1) = true := beq_iff_eq.mpr c4
   have c4b1 : (a0_1 != a1_1) = false := bne_eq_false_iff_eq.mpr c4
   clear c4
   by_cases c5 : a0_2 = a1_2
   ·rw [if_pos c5] at H
    have c5b0 : (a0_2 == a1_2) = true := beq_iff_eq.mpr c5
    have c5b1 : (a0_2 != a1_2) = false := bne_eq_false_iff_eq.mpr c5
    clear c5
    by_cases c6 : a0_3 = a1_3
    ·rw [if_pos c6] at H
     have c6b0 : (a0_3 == a1_3) = true := beq_iff_eq.mpr c6
     have c6b1 : (a0_3 != a1_3) = false := bne_eq_false_iff_eq.mpr c6
     clear c6
     by_cases c7 : a0_4.toList = a1_4.toList
     ·rw [if_pos c7] at H
      have c7b0 : (a0_4.toList == a1_4.toList) = true := beq_iff_eq.mpr c7
      have c7b1 : (a0_4.toList != a1_4.toList) = false := bne_eq_false_iff_eq.mpr c7
      clear c7
      by_cases c8 : a0_5 = a1_5
      ·rw [if_pos c8] at H
       have c8b0 : (a0_5 == a1_5) = true := beq_iff_eq.mpr c8
       have c8b1 : (a0_5 != a1_5) = false := bne_eq_false_iff_eq.mpr c8
       clear c8
       obtain rfl := Option.some.inj H
       go_enter Try.func74, Try.ntmps74
       go_wp2_with (first | ((with_reducible refine gate_dst (N := 2) rfl ?_); refine be 2 #[.int .i64 a0_0, .int .i64 a0_1, .int .i64 a0_2, .int .i64 a0_3, .string a0_4, .int .i64 a0_5] 52 ?_; intro gb326 hg w9 hbox hb; have _ := bs hb; have _ := ra (hbox); have _ := bz (w0 := w) hg; have _ := bz (w0 := w) hg; clear HB; rename_i HB BK326 GW326 GE326; clear hb hbox hg) | ((with_reducible refine gate_dst (N := 3) rfl ?_); refine be 3 #[.int .i64 a1_0, .int .i64 a1_1, .int .i64 a1_2, .int .i64 a1_3, .string a1_4, .int .i64 a1_5] 52 ?_; intro gb327 hg w10 hbox hb; have _ := bb (bk BK326) hb; have _ := bs hb; have _ := ra (hbox); have _ := bz (w0 := w) hg; have _ := bz (w0 := w) hg; have _ := bn hg (bk BK326); have _ := bm hg (bk BK326); clear BK326 HB; rename_i BK326 HB BK327 GW327 GE327 NB326_327 NB327_326; clear hb hbox hg; have hnb11 := NB326_327.out; have hnc11 := NB327_326.out; obtain ⟨hcz12_0, hcz12_1, hcz12_2, hcz12_3, hcz12_4, hcz12_5, hfz12_0, hfz12_1, hfz12_2, hfz12_3, hfz12_4, hfz12_5⟩ := zc6 BK326; obtain ⟨hcz13_0, hcz13_1, hcz13_2, hcz13_3, hcz13_4, hcz13_5, hfz13_0, hfz13_1, hfz13_2, hfz13_3, hfz13_4, hfz13_5⟩ := zc6 BK327))
       go_ret
       exact ⟨re, bq⟩
      ·rw [if_neg c8] at H
       have c8b0 : (a0_5 == a1_5) = false := beq_eq_false_iff_ne.mpr c8
       have c8b1 : (a0_5 != a1_5) = true := bne_iff_ne.mpr c8
       obtain rfl := Option.some.inj H
       go_enter Try.func74, Try.ntmps74
       go_wp2_with (first | ((with_reducible refine gate_dst (N := 2) rfl ?_); refine be 2 #[.int .i64 a0_0, .int .i64 a0_1, .int .i64 a0_2, .int .i64 a0_3, .string a0_4, .int .i64 a0_5] 52 ?_; intro gb326 hg w14 hbox hb; have _ := bs hb; have _ := ra (hbox); have _ := bz (w0 := w) hg; have _ := bz (w0 := w) hg; clear HB; rename_i HB BK326 GW326 GE326; clear hb hbox hg) | ((with_reducible refine gate_dst (N := 3) rfl ?_); refine be 3 #[.int .i64 a1_0, .int .i64 a1_1, .int .i64 a1_2, .int .i64 a1_3, .string a1_4, .int .i64 a1_5] 52 ?_; intro gb327 hg w15 hbox hb; have _ := bb (bk BK326) hb; have _ := bs hb; have _ := ra (hbox); have _ := bz (w0 := w) hg; have _ := bz (w0 := w) hg; have _ := bn hg (bk BK326); have _ := bm hg (bk BK326); clear BK326 HB; rename_i BK326 HB BK327 GW327 GE327 NB326_327 NB327_326; clear hb hbox hg; have hnb16 := NB326_327.out; have hnc16 := NB327_326.out; obtain ⟨hcz17_0, hcz17_1, hcz17_2, hcz17_3, hcz17_4, hcz17_5, hfz17_0, hfz17_1, hfz17_2, hfz17_3, hfz17_4, hfz17_5⟩ := zc6 BK326; obtain ⟨hcz18_0, hcz18_1, hcz18_2, hcz18_3, hcz18_4, hcz18_5, hfz18_0, hfz18_1, hfz18_2, hfz18_3, hfz18_4, hfz18_5⟩ := zc6 BK327))
       go_ret
       exact ⟨re, bq⟩
     ·rw [if_neg c7] at H
      have c7b0 : (a0_4.toList == a1_4.toList) = false := beq_eq_false_iff_ne.mpr c7
      have c7b1 : (a0_4.toList != a1_4.toList) = true := bne_iff_ne.mpr c7
      obtain rfl := Option.some.inj H
      go_enter Try.func74, Try.ntmps74
      go_wp2_with (first | ((with_reducible refine gate_dst (N := 2) rfl ?_); refine be 2 #[.int .i64 a0_0, .int .i64 a0_1, .int .i64 a0_2, .int .i64 a0_3, .string a0_4, .int .i64 a0_5] 52 ?_; intro gb326 hg w19 hbox hb; have _ := bs hb; have _ := ra (hbox); have _ := bz (w0 := w) hg; have _ := bz (w0 := w) hg; clear HB; rename_i HB BK326 GW326 GE326; clear hb hbox hg) | ((with_reducible refine gate_dst (N := 3) rfl ?_); refine be 3 #[.int .i64 a1_0, .int .i64 a1_1, .int .i64 a1_2, .int .i64 a1_3, .string a1_4, .int .i64 a1_5] 52 ?_; intro gb327 hg w20 hbox hb; have _ := bb (bk BK326) hb; have _ := bs hb; have _ := ra (hbox); have _ := bz (w0 := w) hg; have _ := bz (w0 := w) hg; have _ := bn hg (bk BK326); have _ := bm hg (bk BK326); clear BK326 HB; rename_i BK326 HB BK327 GW327 GE327 NB326_327 NB327_326; clear hb hbox hg; have hnb21 := NB326_327.out; have hnc21 := NB327_326.out; obtain ⟨hcz22_0, hcz22_1, hcz22_2, hcz22_3, hcz22_4, hcz22_5, hfz22_0, hfz22_1, hfz22_2, hfz22_3, hfz22_4, hfz22_5⟩ := zc6 BK326; obtain ⟨hcz23_0, hcz23_1, hcz23_2, hcz23_3, hcz23_4, hcz23_5, hfz23_0, hfz23_1, hfz23_2, hfz23_3, hfz23_4, hfz23_5⟩ := zc6 BK327))
      go_ret
      exact ⟨re, bq⟩
    ·rw [if_neg c6] at H
     have c6b0 : (a0_3 == a1_3) = false := beq_eq_false_iff_ne.mpr c6
     have c6b1 : (a0_3 != a1_3) = true := bne_iff_ne.mpr c6
     obtain rfl := Option.some.inj H
     go_enter Try.func74, Try.ntmps74
     go_wp2_with (first | ((with_reducible refine gate_dst (N := 2) rfl ?_); refine be 2 #[.int .i64 a0_0, .int .i64 a0_1, .int .i64 a0_2, .int .i64 a0_3, .string a0_4, .int .i64 a0_5] 52 ?_; intro gb326 hg w24 hbox hb; have _ := bs hb; have _ := ra (hbox); have _ := bz (w0 := w) hg; have _ := bz (w0 := w) hg; clear HB; rename_i HB BK326 GW326 GE326; clear hb hbox hg) | ((with_reducible refine gate_dst (N := 3) rfl ?_); refine be 3 #[.int .i64 a1_0, .int .i64 a1_1, .int .i64 a1_2, .int .i64 a1_3, .string a1_4, .int .i64 a1_5] 52 ?_; intro gb327 hg w25 hbox hb; have _ := bb (bk BK326) hb; have _ := bs hb; have _ := ra (hbox); have _ := bz (w0 := w) hg; have _ := bz (w0 := w) hg; have _ := bn hg (bk BK326); have _ := bm hg (bk BK326); clear BK326 HB; rename_i BK326 HB BK327 GW327 GE327 NB326_327 NB327_326; clear hb hbox hg; have hnb26 := NB326_327.out; have hnc26 := NB327_326.out; obtain ⟨hcz27_0, hcz27_1, hcz27_2, hcz27_3, hcz27_4, hcz27_5, hfz27_0, hfz27_1, hfz27_2, hfz27_3, hfz27_4, hfz27_5⟩ := zc6 BK326; obtain ⟨hcz28_0, hcz28_1, hcz28_2, hcz28_3, hcz28_4, hcz28_5, hfz28_0, hfz28_1, hfz28_2, hfz28_3, hfz28_4, hfz28_5⟩ := zc6 BK327))
     go_ret
     exact ⟨re, bq⟩
   ·rw [if_neg c5] at H
    have c5b0 : (a0_2 == a1_2) = false := beq_eq_false_iff_ne.mpr c5
    have c5b1 : (a0_2 != a1_2) = true := bne_iff_ne.mpr c5
    obtain rfl := Option.some.inj H
    go_enter Try.func74, Try.ntmps74
    go_wp2_with (first | ((with_reducible refine gate_dst (N := 2) rfl ?_); refine be 2 #[.int .i64 a0_0, .int .i64 a0_1, .int .i64 a0_2, .int .i64 a0_3, .string a0_4, .int .i64 a0_5] 52 ?_; intro gb326 hg w29 hbox hb; have _ := bs hb; have _ := ra (hbox); have _ := bz (w0 := w) hg; have _ := bz (w0 := w) hg; clear HB; rename_i HB BK326 GW326 GE326; clear hb hbox hg) | ((with_reducible refine gate_dst (N := 3) rfl ?_); refine be 3 #[.int .i64 a1_0, .int .i64 a1_1, .int .i64 a1_2, .int .i64 a1_3, .string a1_4, .int .i64 a1_5] 52 ?_; intro gb327 hg w30 hbox hb; have _ := bb (bk BK326) hb; have _ := bs hb; have _ := ra (hbox); have _ := bz (w0 := w) hg; have _ := bz (w0 := w) hg; have _ := bn hg (bk BK326); have _ := bm hg (bk BK326); clear BK326 HB; rename_i BK326 HB BK327 GW327 GE327 NB326_327 NB327_326; clear hb hbox hg; have hnb31 := NB326_327.out; have hnc31 := NB327_326.out; obtain ⟨hcz32_0, hcz32_1, hcz32_2, hcz32_3, hcz32_4, hcz32_5, hfz32_0, hfz32_1, hfz32_2, hfz32_3, hfz32_4, hfz32_5⟩ := zc6 BK326; obtain ⟨hcz33_0, hcz33_1, hcz33_2, hcz33_3, hcz33_4, hcz33_5, hfz33_0, hfz33_1, hfz33_2, hfz33_3, hfz33_4, hfz33_5⟩ := zc6 BK327))
    go_ret
    exact ⟨re, bq⟩
  ·rw [if_neg c4] at H
   have c4b0 : (a0_1 == a1_1) = false := beq_eq_false_iff_ne.mpr c4
   have c4b1 : (a0_1 != a1_1) = true := bne_iff_ne.mpr c4
   obtain rfl := Option.some.inj H
   go_enter Try.func74, Try.ntmps74
   go_wp2_with (first | ((with_reducible refine gate_dst (N := 2) rfl ?_); refine be 2 #[.int .i64 a0_0, .int .i64 a0_1, .int .i64 a0_2, .int .i64 a0_3, .string a0_4, .int .i64 a0_5] 52 ?_; intro gb326 hg w34 hbox hb; have _ := bs hb; have _ := ra (hbox); have _ := bz (w0 := w) hg; have _ := bz (w0 := w) hg; clear HB; rename_i HB BK326 GW326 GE326; clear hb hbox hg) | ((with_reducible refine gate_dst (N := 3) rfl ?_); refine be 3 #[.int .i64 a1_0, .int .i64 a1_1, .int .i64 a1_2, .int .i64 a1_3, .string a1_4, .int .i64 a1_5] 52 ?_; intro gb327 hg w35 hbox hb; have _ := bb (bk BK326) hb; have _ := bs hb; have _ := ra (hbox); have _ := bz (w0 := w) hg; have _ := bz (w0 := w) hg; have _ := bn hg (bk BK326); have _ := bm hg (bk BK326); clear BK326 HB; rename_i BK326 HB BK327 GW327 GE327 NB326_327 NB327_326; clear hb hbox hg; have hnb36 := NB326_327.out; have hnc36 := NB327_326.out; obtain ⟨hcz37_0, hcz37_1, hcz37_2, hcz37_3, hcz37_4, hcz37_5, hfz37_0, hfz37_1, hfz37_2, hfz37_3, hfz37_4, hfz37_5⟩ := zc6 BK326; obtain ⟨hcz38_0, hcz38_1, hcz38_2, hcz38_3, hcz38_4, hcz38_5, hfz38_0, hfz38_1, hfz38_2, hfz38_3, hfz38_4, hfz38_5⟩ := zc6 BK327))
   go_ret
   exact ⟨re, bq⟩
 ·rw [if_neg c3] at H
  have c3b0 : (a0_0 == a1_0) = false := beq_eq_false_iff_ne.mpr c3
  have c3b1 : (a0_0 != a1_0) = true := bne_iff_ne.mpr c3
  obtain rfl := Option.some.inj H
  go_enter Try.func74, Try.ntmps74
  go_wp2_with (first | ((with_reducible refine gate_dst (N := 2) rfl ?_); refine be 2 #[.int .i64 a0_0, .int .i64 a0_1, .int .i64 a0_2, .int .i64 a0_3, .string a0_4, .int .i64 a0_5] 52 ?_; intro gb326 hg w39 hbox hb; have _ := bs hb; have _ := ra (hbox); have _ := bz (w0 := w) hg; have _ := bz (w0 := w) hg; clear HB; rename_i HB BK326 GW326 GE326; clear hb hbox hg) | ((with_reducible refine gate_dst (N := 3) rfl ?_); refine be 3 #[.int .i64 a1_0, .int .i64 a1_1, .int .i64 a1_2, .int .i64 a1_3, .string a1_4, .int .i64 a1_5] 52 ?_; intro gb327 hg w40 hbox hb; have _ := bb (bk BK326) hb; have _ := bs hb; have _ := ra (hbox); have _ := bz (w0 := w) hg; have _ := bz (w0 := w) hg; have _ := bn hg (bk BK326); have _ := bm hg (bk BK326); clear BK326 HB; rename_i BK326 HB BK327 GW327 GE327 NB326_327 NB327_326; clear hb hbox hg; have hnb41 := NB326_327.out; have hnc41 := NB327_326.out; obtain ⟨hcz42_0, hcz42_1, hcz42_2, hcz42_3, hcz42_4, hcz42_5, hfz42_0, hfz42_1, hfz42_2, hfz42_3, hfz42_4, hfz42_5⟩ := zc6 BK326; obtain ⟨hcz43_0, hcz43_1, hcz43_2, hcz43_3, hcz43_4, hcz43_5, hfz43_0, hfz43_1, hfz43_2, hfz43_3, hfz43_4, hfz43_5⟩ := zc6 BK327))
  go_ret
  exact ⟨re, bq⟩
def laws_eqProbeSlotS.T6 : Bool × List (List Nat × List Nat) := (true, [([], []), ([], []), ([0, 1], [0, 1]), ([2], [2]), ([], []), ([], []), ([4, 5], [4, 5]), ([6], [6]), ([3, 7], [3, 7]), ([8], [8])])
def laws_eqProbeSlotS.B6 : List Nat := [0, 0, 3, 7, 0, 0, 48, 112, 255, 511]
theorem laws_eqProbeSlotS.tab6 : rtab .any (opsOf Try.f66 6) = laws_eqProbeSlotS.T6 := by kernel_rfl
theorem laws_eqProbeSlotS.bits6 : waitsOk laws_eqProbeSlotS.T6.2 laws_eqProbeSlotS.B6 = true := by kernel_rfl
set_option maxHeartbeats 8000000 in
set_option maxRecDepth 100000 in
theorem laws_eqProbeSlotS.calls (k : Nat) (A0 : Option Addr) (c0 : Nat) (l0 : List (S52)) (A1 : Option Addr) (c1 : Nat) (l1 : List (S52)) (r : Bool) (w : World) (hr0 : Kd.C k52 w A0 l0.length l0) (hc0 : l0.length ≤ c0) (hr1 : Kd.C k52 w A1 l1.length l1) (hc1 : l1.length ≤ c1) (h : laws_eqProbeSlotS.f k l0 l1 = some r) :
  Calls Try.prog 66 #[.slice A0 l0.length c0, .slice A1 l1.length c1] w fun e w' => e = .returned (.bool r) ∧ Below w.heap.size w w' := by
 have hu52 := Try.underlying52
 have HR0 := Aside0.mk hr0
 have HC0 := Aside0.mk hc0
 clear hr0 hc0
 have HR1 := Aside0.mk hr1
 have HC1 := Aside0.mk hc1
 clear hr1 hc1
 have HB := ra (Below.refl w.heap.size w)
 have H : (if (l0.length : Int) = (l1.length : Int) then (laws_eqProbeSlotS.l0 k l0 l1 0) else (some false)) = some r := h
 clear h
 by_cases c3 : (l0.length : Int) = (l1.length : Int)
 ·rw [if_pos c3] at H
  have c3b0 : ((l0.length : Int) == (l1.length : Int)) = true := beq_iff_eq.mpr c3
  have c3b1 : ((l0.length : Int) != (l1.length : Int)) = false := bne_eq_false_iff_eq.mpr c3
  have c3b2 : (l0.length == l1.length) = true := by first | simpa using c3 | (simp at c3 ⊢; omega)
  clear c3
  have H' := Aside0.mk H
  clear H
  go_enter Try.func66, Try.ntmps66
  go_wp2
  go_loopg [5] k (fun kq v5 w' => ∃ (x5_1 : Int), v5 = .int .i64 x5_1 ∧ Aside0 (laws_eqProbeSlotS.l0 kq l0 l1 x5_1 = some r) ∧ Aside0 (kq ≤ k) ∧ Aside0 (Below w.heap.size w w'))
  case atStart => exact ⟨(0), rs, H', ⟨Nat.le_refl _⟩, ⟨bq⟩⟩
  case round =>
   clear H'
   try clear c1
   try clear c3
   try clear c3b0
   try clear c3b1
   try clear c3b2
   obtain ⟨x5_1, rfl, HA, HK1, HB⟩ := hrel
   cases gk with
   | zero => exact absurd HA.out (by simp [laws_eqProbeSlotS.l0])
   | succ k1 =>
    have H := HA.out
    clear HA
    simp only [laws_eqProbeSlotS.l0] at H
    by_cases c4 : x5_1 < (l0.length : Int)
    ·rw [if_pos c4] at H
     have c4b0 : decide (x5_1 < (l0.length : Int)) = true := decide_eq_true c4
     clear c4
     by_cases c5 : 0 ≤ x5_1
     ·rw [if_pos c5] at H
      have c5b0 : decide (0 ≤ x5_1) = true := decide_eq_true c5
      clear c5
      by_cases c6 : x5_1 < (l1.length : Int)
      ·rw [if_pos c6] at H
       have c6b0 : decide (x5_1 < (l1.length : Int)) = true := decide_eq_true c6
       clear c6
       obtain ⟨t330, A7, H⟩ := bo H
       by_cases c8 : t330 = true
       ·subst c8
        replace H := it H rfl
        have H' := Aside0.mk H
        clear H
        try go_wp2
        have _ := ra (below_drew1 HB.out)
        clear HB
        rename_i HB
        have p328 : 0 ≤ (x5_1 : Int) := od
        have q328 : x5_1 < (l0.length : Int) := od
        obtain ⟨ad328, e328, hx328_0, hx328_1, hx328_2, hx328_3, hx328_4, hx328_5⟩ := at_T52 HR0.out x5_1 p328 q328
        have hw328_5 := hx328_5
        have hw328_4 := hx328_4
        have hw328_3 := hx328_3
        have hw328_2 := hx328_2
        have hw328_1 := hx328_1
        have hw328_0 := hx328_0
        cases e328
        replace hx328_0 := hc HB hx328_0
        replace hx328_1 := hc HB hx328_1
        replace hx328_2 := hc HB hx328_2
        replace hx328_3 := hc HB hx328_3
        replace hx328_4 := hc HB hx328_4
        replace hx328_5 := hc HB hx328_5
        replace p328 := eq_true p328
        replace q328 := eq_true q328
        have p329 : 0 ≤ (x5_1 : Int) := od
        have q329 : x5_1 < (l1.length : Int) := od
        obtain ⟨ad329, e329, hx329_0, hx329_1, hx329_2, hx329_3, hx329_4, hx329_5⟩ := at_T52 HR1.out x5_1 p329 q329
        have hw329_5 := hx329_5
        have hw329_4 := hx329_4
        have hw329_3 := hx329_3
        have hw329_2 := hx329_2
        have hw329_1 := hx329_1
        have hw329_0 := hx329_0
        cases e329
        replace hx329_0 := hc HB hx329_0
        replace hx329_1 := hc HB hx329_1
        replace hx329_2 := hc HB hx329_2
        replace hx329_3 := hc HB hx329_3
        replace hx329_4 := hc HB hx329_4
        replace hx329_5 := hc HB hx329_5
        replace p329 := eq_true p329
        replace q329 := eq_true q329
        refine start_ (n := 10) (S := fun w' => w'.cell? (ad328.add ((x5_1).toNat * 6)) = some (.int .i64 ((rd_T52 l0 x5_1).f0)) ∧ w'.cell? ⟨(ad328.add ((x5_1).toNat * 6)).block, (ad328.add ((x5_1).toNat * 6)).off + 1, none⟩ = some (.int .i64 ((rd_T52 l0 x5_1).f1)) ∧ w'.cell? ⟨(ad328.add ((x5_1).toNat * 6)).block, (ad328.add ((x5_1).toNat * 6)).off + 2, none⟩ = some (.int .i64 ((rd_T52 l0 x5_1).f2)) ∧ w'.cell? ⟨(ad328.add ((x5_1).toNat * 6)).block, (ad328.add ((x5_1).toNat * 6)).off + 3, none⟩ = some (.int .i64 ((rd_T52 l0 x5_1).f3)) ∧ w'.cell? ⟨(ad328.add ((x5_1).toNat * 6)).block, (ad328.add ((x5_1).toNat * 6)).off + 4, none⟩ = some (.string ((rd_T52 l0 x5_1).f4)) ∧ w'.cell? ⟨(ad328.add ((x5_1).toNat * 6)).block, (ad328.add ((x5_1).toNat * 6)).off + 5, none⟩ = some (.int .i64 ((rd_T52 l0 x5_1).f5)) ∧ w'.cell? (ad329.add ((x5_1).toNat * 6)) = some (.int .i64 ((rd_T52 l1 x5_1).f0)) ∧ w'.cell? ⟨(ad329.add ((x5_1).toNat * 6)).block, (ad329.add ((x5_1).toNat * 6)).off + 1, none⟩ = some (.int .i64 ((rd_T52 l1 x5_1).f1)) ∧ w'.cell? ⟨(ad329.add ((x5_1).toNat * 6)).block, (ad329.add ((x5_1).toNat * 6)).off + 2, none⟩ = some (.int .i64 ((rd_T52 l1 x5_1).f2)) ∧ w'.cell? ⟨(ad329.add ((x5_1).toNat * 6)).block, (ad329.add ((x5_1).toNat * 6)).off + 3, none⟩ = some (.int .i64 ((rd_T52 l1 x5_1).f3)) ∧ w'.cell? ⟨(ad329.add ((x5_1).toNat * 6)).block, (ad329.add ((x5_1).toNat * 6)).off + 4, none⟩ = some (.string ((rd_T52 l1 x5_1).f4)) ∧ w'.cell? ⟨(ad329.add ((x5_1).toNat * 6)).block, (ad329.add ((x5_1).toNat * 6)).off + 5, none⟩ = some (.int .i64 ((rd_T52 l1 x5_1).f5))) (ds := []) (bl 10 0) (by kernel_rfl) rfl rfl ⟨(hc HB hw328_0), (hc HB hw328_1), (hc HB hw328_2), (hc HB hw328_3), (hc HB hw328_4), (hc HB hw328_5), (hc HB hw329_0), (hc HB hw329_1), (hc HB hw329_2), (hc HB hw329_3), (hc HB hw329_4), (hc HB hw329_5)⟩ (fun hHeld => ?_); refine with_tabW laws_eqProbeSlotS.tab6 laws_eqProbeSlotS.bits6 (fun HT_ HW_ => ?_)
        generalize wr.drew = w9 at HB hx328_0 hx328_1 hx328_2 hx328_3 hx328_4 hx328_5 hx329_0 hx329_1 hx329_2 hx329_3 hx329_4 hx329_5 hHeld ⊢
        refine pu 0 17 (bl 10 1) ?_
        refine pu 1 18 (bl 10 3) ?_
        refine pu 2 19 (bl 10 7) ?_
        refine pu 4 21 (bl 10 23) ?_
        refine pu 5 22 (bl 10 55) ?_
        refine pu 6 23 (bl 10 119) ?_
        refine tk 3 20 (bl 10 127) ?_ hHeld
        refine tk 7 24 (bl 10 255) ?_ hHeld
        refine oe 8 25 (bl 10 511) (fun K hK => ?_)
        refine gs Try.func74 #[.agg #[.int .i64 ((rd_T52 l0 x5_1).f0), .int .i64 ((rd_T52 l0 x5_1).f1), .int .i64 ((rd_T52 l0 x5_1).f2), .int .i64 ((rd_T52 l0 x5_1).f3), .string ((rd_T52 l0 x5_1).f4), .int .i64 ((rd_T52 l0 x5_1).f5)], .agg #[.int .i64 ((rd_T52 l1 x5_1).f0), .int .i64 ((rd_T52 l1 x5_1).f1), .int .i64 ((rd_T52 l1 x5_1).f2), .int .i64 ((rd_T52 l1 x5_1).f3), .string ((rd_T52 l1 x5_1).f4), .int .i64 ((rd_T52 l1 x5_1).f5)]] ?_
        with_reducible refine (laws_eqProbeSlot.calls ((rd_T52 l0 x5_1).f0) ((rd_T52 l0 x5_1).f1) ((rd_T52 l0 x5_1).f2) ((rd_T52 l0 x5_1).f3) ((rd_T52 l0 x5_1).f4) ((rd_T52 l0 x5_1).f5) ((rd_T52 l1 x5_1).f0) ((rd_T52 l1 x5_1).f1) ((rd_T52 l1 x5_1).f2) ((rd_T52 l1 x5_1).f3) ((rd_T52 l1 x5_1).f4) ((rd_T52 l1 x5_1).f5) true _ A7.out).mono ?_
        rintro e w10 ⟨rfl, hb⟩
        refine ⟨_, rfl, ?_⟩
        have _ := bs hb
        clear HB
        rename_i HB
        (try clear hb)
        (try clear hb2)
        (try clear hk)
        (try clear hi)
        refine hK.out _ _ ⟨(hc HB hw328_0), (hc HB hw328_1), (hc HB hw328_2), (hc HB hw328_3), (hc HB hw328_4), (hc HB hw328_5), (hc HB hw329_0), (hc HB hw329_1), (hc HB hw329_2), (hc HB hw329_3), (hc HB hw329_4), (hc HB hw329_5)⟩ (fun hHeld => ?_)
        clear hK K
        refine nm 25 ?_
        refine pu 9 26 (bl 10 1023) ?_
        refine done_ (done_of HT_.out (by kernel_rfl)) ?_
        try go_wp2
        go_roundg k1
        case measure => have := HK1.out; omega
        case rel => exact ⟨(wrap64 (x5_1 + 1)), rs, H', ⟨by have := HK1.out; omega⟩, ⟨bq⟩⟩
       ·replace c8 := Bool.eq_false_iff.mpr c8
        subst c8
        have H1 : (some false) = some r := by rw [if_neg (show ¬ (false = true) by decide)] at H; exact H
        clear H
        have H := H1
        clear H1
        obtain rfl := Option.some.inj H
        try go_wp2
        have _ := ra (below_drew1 HB.out)
        clear HB
        rename_i HB
        have p328 : 0 ≤ (x5_1 : Int) := od
        have q328 : x5_1 < (l0.length : Int) := od
        obtain ⟨ad328, e328, hx328_0, hx328_1, hx328_2, hx328_3, hx328_4, hx328_5⟩ := at_T52 HR0.out x5_1 p328 q328
        have hw328_5 := hx328_5
        have hw328_4 := hx328_4
        have hw328_3 := hx328_3
        have hw328_2 := hx328_2
        have hw328_1 := hx328_1
        have hw328_0 := hx328_0
        cases e328
        replace hx328_0 := hc HB hx328_0
        replace hx328_1 := hc HB hx328_1
        replace hx328_2 := hc HB hx328_2
        replace hx328_3 := hc HB hx328_3
        replace hx328_4 := hc HB hx328_4
        replace hx328_5 := hc HB hx328_5
        replace p328 := eq_true p328
        replace q328 := eq_true q328
        have p329 : 0 ≤ (x5_1 : Int) := od
        have q329 : x5_1 < (l1.length : Int) := od
        obtain ⟨ad329, e329, hx329_0, hx329_1, hx329_2, hx329_3, hx329_4, hx329_5⟩ := at_T52 HR1.out x5_1 p329 q329
        have hw329_5 := hx329_5
        have hw329_4 := hx329_4
        have hw329_3 := hx329_3
        have hw329_2 := hx329_2
        have hw329_1 := hx329_1
        have hw329_0 := hx329_0
        cases e329
        replace hx329_0 := hc HB hx329_0
        replace hx329_1 := hc HB hx329_1
        replace hx329_2 := hc HB hx329_2
        replace hx329_3 := hc HB hx329_3
        replace hx329_4 := hc HB hx329_4
        replace hx329_5 := hc HB hx329_5
        replace p329 := eq_true p329
        replace q329 := eq_true q329
        refine start_ (n := 10) (S := fun w' => w'.cell? (ad328.add ((x5_1).toNat * 6)) = some (.int .i64 ((rd_T52 l0 x5_1).f0)) ∧ w'.cell? ⟨(ad328.add ((x5_1).toNat * 6)).block, (ad328.add ((x5_1).toNat * 6)).off + 1, none⟩ = some (.int .i64 ((rd_T52 l0 x5_1).f1)) ∧ w'.cell? ⟨(ad328.add ((x5_1).toNat * 6)).block, (ad328.add ((x5_1).toNat * 6)).off + 2, none⟩ = some (.int .i64 ((rd_T52 l0 x5_1).f2)) ∧ w'.cell? ⟨(ad328.add ((x5_1).toNat * 6)).block, (ad328.add ((x5_1).toNat * 6)).off + 3, none⟩ = some (.int .i64 ((rd_T52 l0 x5_1).f3)) ∧ w'.cell? ⟨(ad328.add ((x5_1).toNat * 6)).block, (ad328.add ((x5_1).toNat * 6)).off + 4, none⟩ = some (.string ((rd_T52 l0 x5_1).f4)) ∧ w'.cell? ⟨(ad328.add ((x5_1).toNat * 6)).block, (ad328.add ((x5_1).toNat * 6)).off + 5, none⟩ = some (.int .i64 ((rd_T52 l0 x5_1).f5)) ∧ w'.cell? (ad329.add ((x5_1).toNat * 6)) = some (.int .i64 ((rd_T52 l1 x5_1).f0)) ∧ w'.cell? ⟨(ad329.add ((x5_1).toNat * 6)).block, (ad329.add ((x5_1).toNat * 6)).off + 1, none⟩ = some (.int .i64 ((rd_T52 l1 x5_1).f1)) ∧ w'.cell? ⟨(ad329.add ((x5_1).toNat * 6)).block, (ad329.add ((x5_1).toNat * 6)).off + 2, none⟩ = some (.int .i64 ((rd_T52 l1 x5_1).f2)) ∧ w'.cell? ⟨(ad329.add ((x5_1).toNat * 6)).block, (ad329.add ((x5_1).toNat * 6)).off + 3, none⟩ = some (.int .i64 ((rd_T52 l1 x5_1).f3)) ∧ w'.cell? ⟨(ad329.add ((x5_1).toNat * 6)).block, (ad329.add ((x5_1).toNat * 6)).off + 4, none⟩ = some (.string ((rd_T52 l1 x5_1).f4)) ∧ w'.cell? ⟨(ad329.add ((x5_1).toNat * 6)).block, (ad329.add ((x5_1).toNat * 6)).off + 5, none⟩ = some (.int .i64 ((rd_T52 l1 x5_1).f5))) (ds := []) (bl 10 0) (by kernel_rfl) rfl rfl ⟨(hc HB hw328_0), (hc HB hw328_1), (hc HB hw328_2), (hc HB hw328_3), (hc HB hw328_4), (hc HB hw328_5), (hc HB hw329_0), (hc HB hw329_1), (hc HB hw329_2), (hc HB hw329_3), (hc HB hw329_4), (hc HB hw329_5)⟩ (fun hHeld => ?_); refine with_tabW laws_eqProbeSlotS.tab6 laws_eqProbeSlotS.bits6 (fun HT_ HW_ => ?_)
        generalize wr.drew = w11 at HB hx328_0 hx328_1 hx328_2 hx328_3 hx328_4 hx328_5 hx329_0 hx329_1 hx329_2 hx329_3 hx329_4 hx329_5 hHeld ⊢
        refine pu 0 17 (bl 10 1) ?_
        refine pu 1 18 (bl 10 3) ?_
        refine pu 2 19 (bl 10 7) ?_
        refine pu 4 21 (bl 10 23) ?_
        refine pu 5 22 (bl 10 55) ?_
        refine pu 6 23 (bl 10 119) ?_
        refine tk 3 20 (bl 10 127) ?_ hHeld
        refine tk 7 24 (bl 10 255) ?_ hHeld
        refine oe 8 25 (bl 10 511) (fun K hK => ?_)
        refine gs Try.func74 #[.agg #[.int .i64 ((rd_T52 l0 x5_1).f0), .int .i64 ((rd_T52 l0 x5_1).f1), .int .i64 ((rd_T52 l0 x5_1).f2), .int .i64 ((rd_T52 l0 x5_1).f3), .string ((rd_T52 l0 x5_1).f4), .int .i64 ((rd_T52 l0 x5_1).f5)], .agg #[.int .i64 ((rd_T52 l1 x5_1).f0), .int .i64 ((rd_T52 l1 x5_1).f1), .int .i64 ((rd_T52 l1 x5_1).f2), .int .i64 ((rd_T52 l1 x5_1).f3), .string ((rd_T52 l1 x5_1).f4), .int .i64 ((rd_T52 l1 x5_1).f5)]] ?_
        with_reducible refine (laws_eqProbeSlot.calls ((rd_T52 l0 x5_1).f0) ((rd_T52 l0 x5_1).f1) ((rd_T52 l0 x5_1).f2) ((rd_T52 l0 x5_1).f3) ((rd_T52 l0 x5_1).f4) ((rd_T52 l0 x5_1).f5) ((rd_T52 l1 x5_1).f0) ((rd_T52 l1 x5_1).f1) ((rd_T52 l1 x5_1).f2) ((rd_T52 l1 x5_1).f3) ((rd_T52 l1 x5_1).f4) ((rd_T52 l1 x5_1).f5) false _ A7.out).mono ?_
        rintro e w12 ⟨rfl, hb⟩
        refine ⟨_, rfl, ?_⟩
        have _ := bs hb
        clear HB
        rename_i HB
        (try clear hb)
        (try clear hb2)
        (try clear hk)
        (try clear hi)
        refine hK.out _ _ ⟨(hc HB hw328_0), (hc HB hw328_1), (hc HB hw328_2), (hc HB hw328_3), (hc HB hw328_4), (hc HB hw328_5), (hc HB hw329_0), (hc HB hw329_1), (hc HB hw329_2), (hc HB hw329_3), (hc HB hw329_4), (hc HB hw329_5)⟩ (fun hHeld => ?_)
        clear hK K
        refine nm 25 ?_
        refine pu 9 26 (bl 10 1023) ?_
        refine done_ (done_of HT_.out (by kernel_rfl)) ?_
        try go_wp2
        go_ret
        exact ⟨re, bq⟩
      ·rw [if_neg c6] at H
       exact absurd H (by simp)
     ·rw [if_neg c5] at H
      exact absurd H (by simp)
    ·rw [if_neg c4] at H
     have c4b0 : decide (x5_1 < (l0.length : Int)) = false := decide_eq_false c4
     clear c4
     obtain rfl := Option.some.inj H
     go_wp2
     go_ret
     exact ⟨re, bq⟩
 ·rw [if_neg c3] at H
  have c3b0 : ((l0.length : Int) == (l1.length : Int)) = false := beq_eq_false_iff_ne.mpr c3
  have c3b1 : ((l0.length : Int) != (l1.length : Int)) = true := bne_iff_ne.mpr c3
  have c3b2 : (l0.length == l1.length) = false := by first | simpa using c3 | (simp at c3 ⊢; omega)
  obtain rfl := Option.some.inj H
  go_enter Try.func66, Try.ntmps66
  go_wp2
  go_ret
  exact ⟨re, bq⟩
set_option maxHeartbeats 8000000 in
set_option maxRecDepth 100000 in
theorem laws_eqProbeCell.calls (k : Nat) (a0_0 : Int) (a0_1 : Int) (A0_2 : Option Addr) (c0_2 : Nat) (l0_2 : List (S52)) (a1_0 : Int) (a1_1 : Int) (A1_2 : Option Addr) (c1_2 : Nat) (l1_2 : List (S52)) (r : Bool) (w : World) (hr0_2 : Kd.C k52 w A0_2 l0_2.length l0_2) (hc0_2 : l0_2.length ≤ c0_2) (hr1_2 : Kd.C k52 w A1_2 l1_2.length l1_2) (hc1_2 : l1_2.length ≤ c1_2) (h : laws_eqProbeCell.f k a0_0 a0_1 l0_2 a1_0 a1_1 l1_2 = some r) :
  Calls Try.prog 37 #[.agg #[.int .i64 a0_0, .int .i64 a0_1, .slice A0_2 l0_2.length c0_2], .agg #[.int .i64 a1_0, .int .i64 a1_1, .slice A1_2 l1_2.length c1_2]] w fun e w' => e = .returned (.bool r) ∧ Below w.heap.size w w' := by
 have hu56 := Try.underlying56
 have HR0_2 := Aside0.mk hr0_2
 have HC0_2 := Aside0.mk hc0_2
 clear hr0_2 hc0_2
 have HR1_2 := Aside0.mk hr1_2
 have HC1_2 := Aside0.mk hc1_2
 clear hr1_2 hc1_2
 have HB := ra (Below.refl w.heap.size w)
 have H : (if a0_0 = a1_0 then (if a0_1 = a1_1 then ((laws_eqProbeSlotS.f k l0_2 l1_2).bind fun t333 => (if t333 = true then (some true) else (some false))) else (some false)) else (some false)) = some r := h
 clear h
 by_cases c3 : a0_0 = a1_0
 ·rw [if_pos c3] at H
  have c3b0 : (a0_0 == a1_0) = true := beq_iff_eq.mpr c3
  have c3b1 : (a0_0 != a1_0) = false := bne_eq_false_iff_eq.mpr c3
  clear c3
  by_cases c4 : a0_1 = a1_1
  ·rw [if_pos c4] at H
   have c4b0 : (a0_1 == a1_1) = true := beq_iff_eq.mpr c4
   have c4b1 : (a0_1 != a1_1) = false := bne_eq_false_iff_eq.mpr c4
   clear c4
   obtain ⟨t333, A5, H⟩ := bo H
   by_cases c6 : t333 = true
   ·subst c6
    replace H := it H rfl
    obtain rfl := Option.some.inj H
    go_enter Try.func37, Try.ntmps37
    go_wp2_with (first | ((with_reducible refine gate_dst (N := 2) rfl ?_); refine be 2 #[.int .i64 a0_0, .int .i64 a0_1, .slice A0_2 l0_2.length c0_2] 56 ?_; intro gb331 hg w7 hbox hb; have _ := bs hb; have _ := ra (hbox); have _ := bz (w0 := w) hg; have _ := bz (w0 := w) hg; clear HB; rename_i HB BK331 GW331 GE331; clear hb hbox hg) | ((with_reducible refine gate_dst (N := 3) rfl ?_); refine be 3 #[.int .i64 a1_0, .int .i64 a1_1, .slice A1_2 l1_2.length c1_2] 56 ?_; intro gb332 hg w8 hbox hb; have _ := bb (bk BK331) hb; have _ := bs hb; have _ := ra (hbox); have _ := bz (w0 := w) hg; have _ := bz (w0 := w) hg; have _ := bn hg (bk BK331); have _ := bm hg (bk BK331); clear BK331 HB; rename_i BK331 HB BK332 GW332 GE332 NB331_332 NB332_331; clear hb hbox hg; have hnb9 := NB331_332.out; have hnc9 := NB332_331.out; have hcz10_0 : w8.cell? ⟨gb331, 0, none⟩ = some (.int .i64 a0_0) := (blk_cell BK331.out 0).trans rfl; have hcz10_1 : w8.cell? ⟨gb331, 1, none⟩ = some (.int .i64 a0_1) := (blk_cell BK331.out 1).trans rfl; have hcz10_2 : w8.cell? ⟨gb331, 2, none⟩ = some (.slice A0_2 l0_2.length c0_2) := (blk_cell BK331.out 2).trans rfl; have hfz10_0 := blk_frozen BK331.out 0; have hfz10_1 := blk_frozen BK331.out 1; have hfz10_2 := blk_frozen BK331.out 2; have hcz11_0 : w8.cell? ⟨gb332, 0, none⟩ = some (.int .i64 a1_0) := (blk_cell BK332.out 0).trans rfl; have hcz11_1 : w8.cell? ⟨gb332, 1, none⟩ = some (.int .i64 a1_1) := (blk_cell BK332.out 1).trans rfl; have hcz11_2 : w8.cell? ⟨gb332, 2, none⟩ = some (.slice A1_2 l1_2.length c1_2) := (blk_cell BK332.out 2).trans rfl; have hfz11_0 := blk_frozen BK332.out 0; have hfz11_1 := blk_frozen BK332.out 1; have hfz11_2 := blk_frozen BK332.out 2) | ((with_reducible refine gate_callee (f := 66) rfl ?_); refine gl (some 19) Try.func66 #[.slice A0_2 l0_2.length c0_2, .slice A1_2 l1_2.length c1_2] ?_; (with_reducible refine (laws_eqProbeSlotS.calls k _ _ l0_2 _ _ l1_2 true _ ?side1 ?side2 ?side3 ?side4 A5.out).mono ?_); (case side1 => exact sc HR0_2); (case side2 => exact HC0_2.out); (case side3 => exact sc HR1_2); (case side4 => exact HC1_2.out); rintro e w12 ⟨rfl, hb⟩; refine ⟨_, rfl, ?_⟩; have _ := bb (bk BK331) hb; have _ := bb (bk BK332) hb; have _ := bs hb; clear BK331 BK332 HB; rename_i BK331 BK332 HB; (try clear hb); (try clear hb2); (try clear hk); (try clear hi)))
    go_ret
    exact ⟨re, bq⟩
   ·replace c6 := Bool.eq_false_iff.mpr c6
    subst c6
    have H1 : (some false) = some r := by rw [if_neg (show ¬ (false = true) by decide)] at H; exact H
    clear H
    have H := H1
    clear H1
    obtain rfl := Option.some.inj H
    go_enter Try.func37, Try.ntmps37
    go_wp2_with (first | ((with_reducible refine gate_dst (N := 2) rfl ?_); refine be 2 #[.int .i64 a0_0, .int .i64 a0_1, .slice A0_2 l0_2.length c0_2] 56 ?_; intro gb331 hg w13 hbox hb; have _ := bs hb; have _ := ra (hbox); have _ := bz (w0 := w) hg; have _ := bz (w0 := w) hg; clear HB; rename_i HB BK331 GW331 GE331; clear hb hbox hg) | ((with_reducible refine gate_dst (N := 3) rfl ?_); refine be 3 #[.int .i64 a1_0, .int .i64 a1_1, .slice A1_2 l1_2.length c1_2] 56 ?_; intro gb332 hg w14 hbox hb; have _ := bb (bk BK331) hb; have _ := bs hb; have _ := ra (hbox); have _ := bz (w0 := w) hg; have _ := bz (w0 := w) hg; have _ := bn hg (bk BK331); have _ := bm hg (bk BK331); clear BK331 HB; rename_i BK331 HB BK332 GW332 GE332 NB331_332 NB332_331; clear hb hbox hg; have hnb15 := NB331_332.out; have hnc15 := NB332_331.out; have hcz16_0 : w14.cell? ⟨gb331, 0, none⟩ = some (.int .i64 a0_0) := (blk_cell BK331.out 0).trans rfl; have hcz16_1 : w14.cell? ⟨gb331, 1, none⟩ = some (.int .i64 a0_1) := (blk_cell BK331.out 1).trans rfl; have hcz16_2 : w14.cell? ⟨gb331, 2, none⟩ = some (.slice A0_2 l0_2.length c0_2) := (blk_cell BK331.out 2).trans rfl; have hfz16_0 := blk_frozen BK331.out 0; have hfz16_1 := blk_frozen BK331.out 1; have hfz16_2 := blk_frozen BK331.out 2; have hcz17_0 : w14.cell? ⟨gb332, 0, none⟩ = some (.int .i64 a1_0) := (blk_cell BK332.out 0).trans rfl; have hcz17_1 : w14.cell? ⟨gb332, 1, none⟩ = some (.int .i64 a1_1) := (blk_cell BK332.out 1).trans rfl; have hcz17_2 : w14.cell? ⟨gb332, 2, none⟩ = some (.slice A1_2 l1_2.length c1_2) := (blk_cell BK332.out 2).trans rfl; have hfz17_0 := blk_frozen BK332.out 0; have hfz17_1 := blk_frozen BK332.out 1; have hfz17_2 := blk_frozen BK332.out 2) | ((with_reducible refine gate_callee (f := 66) rfl ?_); refine gl (some 19) Try.func66 #[.slice A0_2 l0_2.length c0_2, .slice A1_2 l1_2.length c1_2] ?_; (with_reducible refine (laws_eqProbeSlotS.calls k _ _ l0_2 _ _ l1_2 false _ ?side1 ?side2 ?side3 ?side4 A5.out).mono ?_); (case side1 => exact sc HR0_2); (case side2 => exact HC0_2.out); (case side3 => exact sc HR1_2); (case side4 => exact HC1_2.out); rintro e w18 ⟨rfl, hb⟩; refine ⟨_, rfl, ?_⟩; have _ := bb (bk BK331) hb; have _ := bb (bk BK332) hb; have _ := bs hb; clear BK331 BK332 HB; rename_i BK331 BK332 HB; (try clear hb); (try clear hb2); (try clear hk); (try clear hi)))
    go_ret
    exact ⟨re, bq⟩
  ·rw [if_neg c4] at H
   have c4b0 : (a0_1 == a1_1) = false := beq_eq_false_iff_ne.mpr c4
   have c4b1 : (a0_1 != a1_1) = true := bne_iff_ne.mpr c4
   obtain rfl := Option.some.inj H
   go_enter Try.func37, Try.ntmps37
   go_wp2_with (first | ((with_reducible refine gate_dst (N := 2) rfl ?_); refine be 2 #[.int .i64 a0_0, .int .i64 a0_1, .slice A0_2 l0_2.length c0_2] 56 ?_; intro gb331 hg w19 hbox hb; have _ := bs hb; have _ := ra (hbox); have _ := bz (w0 := w) hg; have _ := bz (w0 := w) hg; clear HB; rename_i HB BK331 GW331 GE331; clear hb hbox hg) | ((with_reducible refine gate_dst (N := 3) rfl ?_); refine be 3 #[.int .i64 a1_0, .int .i64 a1_1, .slice A1_2 l1_2.length c1_2] 56 ?_; intro gb332 hg w20 hbox hb; have _ := bb (bk BK331) hb; have _ := bs hb; have _ := ra (hbox); have _ := bz (w0 := w) hg; have _ := bz (w0 := w) hg; have _ := bn hg (bk BK331); have _ := bm hg (bk BK331); clear BK331 HB; rename_i BK331 HB BK332 GW332 GE332 NB331_332 NB332_331; clear hb hbox hg; have hnb21 := NB331_332.out; have hnc21 := NB332_331.out; have hcz22_0 : w20.cell? ⟨gb331, 0, none⟩ = some (.int .i64 a0_0) := (blk_cell BK331.out 0).trans rfl; have hcz22_1 : w20.cell? ⟨gb331, 1, none⟩ = some (.int .i64 a0_1) := (blk_cell BK331.out 1).trans rfl; have hcz22_2 : w20.cell? ⟨gb331, 2, none⟩ = some (.slice A0_2 l0_2.length c0_2) := (blk_cell BK331.out 2).trans rfl; have hfz22_0 := blk_frozen BK331.out 0; have hfz22_1 := blk_frozen BK331.out 1; have hfz22_2 := blk_frozen BK331.out 2; have hcz23_0 : w20.cell? ⟨gb332, 0, none⟩ = some (.int .i64 a1_0) := (blk_cell BK332.out 0).trans rfl; have hcz23_1 : w20.cell? ⟨gb332, 1, none⟩ = some (.int .i64 a1_1) := (blk_cell BK332.out 1).trans rfl; have hcz23_2 : w20.cell? ⟨gb332, 2, none⟩ = some (.slice A1_2 l1_2.length c1_2) := (blk_cell BK332.out 2).trans rfl; have hfz23_0 := blk_frozen BK332.out 0; have hfz23_1 := blk_frozen BK332.out 1; have hfz23_2 := blk_frozen BK332.out 2))
   go_ret
   exact ⟨re, bq⟩
 ·rw [if_neg c3] at H
  have c3b0 : (a0_0 == a1_0) = false := beq_eq_false_iff_ne.mpr c3
  have c3b1 : (a0_0 != a1_0) = true := bne_iff_ne.mpr c3
  obtain rfl := Option.some.inj H
  go_enter Try.func37, Try.ntmps37
  go_wp2_with (first | ((with_reducible refine gate_dst (N := 2) rfl ?_); refine be 2 #[.int .i64 a0_0, .int .i64 a0_1, .slice A0_2 l0_2.length c0_2] 56 ?_; intro gb331 hg w24 hbox hb; have _ := bs hb; have _ := ra (hbox); have _ := bz (w0 := w) hg; have _ := bz (w0 := w) hg; clear HB; rename_i HB BK331 GW331 GE331; clear hb hbox hg) | ((with_reducible refine gate_dst (N := 3) rfl ?_); refine be 3 #[.int .i64 a1_0, .int .i64 a1_1, .slice A1_2 l1_2.length c1_2] 56 ?_; intro gb332 hg w25 hbox hb; have _ := bb (bk BK331) hb; have _ := bs hb; have _ := ra (hbox); have _ := bz (w0 := w) hg; have _ := bz (w0 := w) hg; have _ := bn hg (bk BK331); have _ := bm hg (bk BK331); clear BK331 HB; rename_i BK331 HB BK332 GW332 GE332 NB331_332 NB332_331; clear hb hbox hg; have hnb26 := NB331_332.out; have hnc26 := NB332_331.out; have hcz27_0 : w25.cell? ⟨gb331, 0, none⟩ = some (.int .i64 a0_0) := (blk_cell BK331.out 0).trans rfl; have hcz27_1 : w25.cell? ⟨gb331, 1, none⟩ = some (.int .i64 a0_1) := (blk_cell BK331.out 1).trans rfl; have hcz27_2 : w25.cell? ⟨gb331, 2, none⟩ = some (.slice A0_2 l0_2.length c0_2) := (blk_cell BK331.out 2).trans rfl; have hfz27_0 := blk_frozen BK331.out 0; have hfz27_1 := blk_frozen BK331.out 1; have hfz27_2 := blk_frozen BK331.out 2; have hcz28_0 : w25.cell? ⟨gb332, 0, none⟩ = some (.int .i64 a1_0) := (blk_cell BK332.out 0).trans rfl; have hcz28_1 : w25.cell? ⟨gb332, 1, none⟩ = some (.int .i64 a1_1) := (blk_cell BK332.out 1).trans rfl; have hcz28_2 : w25.cell? ⟨gb332, 2, none⟩ = some (.slice A1_2 l1_2.length c1_2) := (blk_cell BK332.out 2).trans rfl; have hfz28_0 := blk_frozen BK332.out 0; have hfz28_1 := blk_frozen BK332.out 1; have hfz28_2 := blk_frozen BK332.out 2))
  go_ret
  exact ⟨re, bq⟩
def laws_eqProbeCellS.T6 : Bool × List (List Nat × List Nat) := (true, [([], []), ([], []), ([0, 1], [0, 1]), ([2], [2]), ([], []), ([], []), ([4, 5], [4, 5]), ([6], [6]), ([3, 7], [3, 7]), ([8], [8])])
def laws_eqProbeCellS.B6 : List Nat := [0, 0, 3, 7, 0, 0, 48, 112, 255, 511]
theorem laws_eqProbeCellS.tab6 : rtab .any (opsOf Try.f21 6) = laws_eqProbeCellS.T6 := by kernel_rfl
theorem laws_eqProbeCellS.bits6 : waitsOk laws_eqProbeCellS.T6.2 laws_eqProbeCellS.B6 = true := by kernel_rfl
set_option maxHeartbeats 8000000 in
set_option maxRecDepth 100000 in
theorem laws_eqProbeCellS.calls (k : Nat) (A0 : Option Addr) (c0 : Nat) (l0 : List (S56)) (A1 : Option Addr) (c1 : Nat) (l1 : List (S56)) (r : Bool) (w : World) (hr0 : Kd.C k56 w A0 l0.length l0) (hc0 : l0.length ≤ c0) (hr1 : Kd.C k56 w A1 l1.length l1) (hc1 : l1.length ≤ c1) (h : laws_eqProbeCellS.f k l0 l1 = some r) :
  Calls Try.prog 21 #[.slice A0 l0.length c0, .slice A1 l1.length c1] w fun e w' => e = .returned (.bool r) ∧ Below w.heap.size w w' := by
 have hu56 := Try.underlying56
 have HR0 := Aside0.mk hr0
 have HC0 := Aside0.mk hc0
 clear hr0 hc0
 have HR1 := Aside0.mk hr1
 have HC1 := Aside0.mk hc1
 clear hr1 hc1
 have HB := ra (Below.refl w.heap.size w)
 have H : (if (l0.length : Int) = (l1.length : Int) then (laws_eqProbeCellS.l0 k l0 l1 0) else (some false)) = some r := h
 clear h
 by_cases c3 : (l0.length : Int) = (l1.length : Int)
 ·rw [if_pos c3] at H
  have c3b0 : ((l0.length : Int) == (l1.length : Int)) = true := beq_iff_eq.mpr c3
  have c3b1 : ((l0.length : Int) != (l1.length : Int)) = false := bne_eq_false_iff_eq.mpr c3
  have c3b2 : (l0.length == l1.length) = true := by first | simpa using c3 | (simp at c3 ⊢; omega)
  clear c3
  have H' := Aside0.mk H
  clear H
  go_enter Try.func21, Try.ntmps21
  go_wp2
  go_loopg [5] k (fun kq v5 w' => ∃ (x5_1 : Int), v5 = .int .i64 x5_1 ∧ Aside0 (laws_eqProbeCellS.l0 kq l0 l1 x5_1 = some r) ∧ Aside0 (kq ≤ k) ∧ Aside0 (Below w.heap.size w w'))
  case atStart => exact ⟨(0), rs, H', ⟨Nat.le_refl _⟩, ⟨bq⟩⟩
  case round =>
   clear H'
   try clear c1
   try clear c3
   try clear c3b0
   try clear c3b1
   try clear c3b2
   obtain ⟨x5_1, rfl, HA, HK1, HB⟩ := hrel
   cases gk with
   | zero => exact absurd HA.out (by simp [laws_eqProbeCellS.l0])
   | succ k1 =>
    have H := HA.out
    clear HA
    simp only [laws_eqProbeCellS.l0] at H
    by_cases c4 : x5_1 < (l0.length : Int)
    ·rw [if_pos c4] at H
     have c4b0 : decide (x5_1 < (l0.length : Int)) = true := decide_eq_true c4
     clear c4
     by_cases c5 : 0 ≤ x5_1
     ·rw [if_pos c5] at H
      have c5b0 : decide (0 ≤ x5_1) = true := decide_eq_true c5
      clear c5
      by_cases c6 : x5_1 < (l1.length : Int)
      ·rw [if_pos c6] at H
       have c6b0 : decide (x5_1 < (l1.length : Int)) = true := decide_eq_true c6
       clear c6
       obtain ⟨t336, A7, H⟩ := bo H
       by_cases c8 : t336 = true
       ·subst c8
        replace H := it H rfl
        have H' := Aside0.mk H
        clear H
        try go_wp2
        have _ := ra (below_drew1 HB.out)
        clear HB
        rename_i HB
        have p334 : 0 ≤ (x5_1 : Int) := od
        have q334 : x5_1 < (l0.length : Int) := od
        obtain ⟨ad334, A334_2, c334_2, e334, hx334_0, hx334_1, hx334_2, hl334_2, hi334_2⟩ := at_T56 HR0.out x5_1 p334 q334
        have hw334_2 := hx334_2
        have hw334_1 := hx334_1
        have hw334_0 := hx334_0
        cases e334
        replace hx334_0 := hc HB hx334_0
        replace hx334_1 := hc HB hx334_1
        replace hx334_2 := hc HB hx334_2
        have HR334_2 := Aside0.mk hi334_2
        have HC334_2 := Aside0.mk hl334_2
        clear hi334_2 hl334_2
        replace p334 := eq_true p334
        replace q334 := eq_true q334
        have p335 : 0 ≤ (x5_1 : Int) := od
        have q335 : x5_1 < (l1.length : Int) := od
        obtain ⟨ad335, A335_2, c335_2, e335, hx335_0, hx335_1, hx335_2, hl335_2, hi335_2⟩ := at_T56 HR1.out x5_1 p335 q335
        have hw335_2 := hx335_2
        have hw335_1 := hx335_1
        have hw335_0 := hx335_0
        cases e335
        replace hx335_0 := hc HB hx335_0
        replace hx335_1 := hc HB hx335_1
        replace hx335_2 := hc HB hx335_2
        have HR335_2 := Aside0.mk hi335_2
        have HC335_2 := Aside0.mk hl335_2
        clear hi335_2 hl335_2
        replace p335 := eq_true p335
        replace q335 := eq_true q335
        refine start_ (n := 10) (S := fun w' => w'.cell? (ad334.add ((x5_1).toNat * 3)) = some (.int .i64 ((rd_T56 l0 x5_1).f0)) ∧ w'.cell? ⟨(ad334.add ((x5_1).toNat * 3)).block, (ad334.add ((x5_1).toNat * 3)).off + 1, none⟩ = some (.int .i64 ((rd_T56 l0 x5_1).f1)) ∧ w'.cell? ⟨(ad334.add ((x5_1).toNat * 3)).block, (ad334.add ((x5_1).toNat * 3)).off + 2, none⟩ = some (.slice A334_2 ((rd_T56 l0 x5_1).f2).length c334_2) ∧ w'.cell? (ad335.add ((x5_1).toNat * 3)) = some (.int .i64 ((rd_T56 l1 x5_1).f0)) ∧ w'.cell? ⟨(ad335.add ((x5_1).toNat * 3)).block, (ad335.add ((x5_1).toNat * 3)).off + 1, none⟩ = some (.int .i64 ((rd_T56 l1 x5_1).f1)) ∧ w'.cell? ⟨(ad335.add ((x5_1).toNat * 3)).block, (ad335.add ((x5_1).toNat * 3)).off + 2, none⟩ = some (.slice A335_2 ((rd_T56 l1 x5_1).f2).length c335_2)) (ds := []) (bl 10 0) (by kernel_rfl) rfl rfl ⟨(hc HB hw334_0), (hc HB hw334_1), (hc HB hw334_2), (hc HB hw335_0), (hc HB hw335_1), (hc HB hw335_2)⟩ (fun hHeld => ?_); refine with_tabW laws_eqProbeCellS.tab6 laws_eqProbeCellS.bits6 (fun HT_ HW_ => ?_)
        generalize wr.drew = w9 at HB HR334_2 HR335_2 hx334_0 hx334_1 hx334_2 hx335_0 hx335_1 hx335_2 hHeld ⊢
        refine pu 0 17 (bl 10 1) ?_
        refine pu 1 18 (bl 10 3) ?_
        refine pu 2 19 (bl 10 7) ?_
        refine pu 4 21 (bl 10 23) ?_
        refine pu 5 22 (bl 10 55) ?_
        refine pu 6 23 (bl 10 119) ?_
        refine tk 3 20 (bl 10 127) ?_ hHeld
        refine tk 7 24 (bl 10 255) ?_ hHeld
        refine oe 8 25 (bl 10 511) (fun K hK => ?_)
        refine gs Try.func37 #[.agg #[.int .i64 ((rd_T56 l0 x5_1).f0), .int .i64 ((rd_T56 l0 x5_1).f1), .slice A334_2 ((rd_T56 l0 x5_1).f2).length c334_2], .agg #[.int .i64 ((rd_T56 l1 x5_1).f0), .int .i64 ((rd_T56 l1 x5_1).f1), .slice A335_2 ((rd_T56 l1 x5_1).f2).length c335_2]] ?_
        with_reducible refine (laws_eqProbeCell.calls k1 ((rd_T56 l0 x5_1).f0) ((rd_T56 l0 x5_1).f1) _ _ ((rd_T56 l0 x5_1).f2) ((rd_T56 l1 x5_1).f0) ((rd_T56 l1 x5_1).f1) _ _ ((rd_T56 l1 x5_1).f2) true _ ?side1 ?side2 ?side3 ?side4 A7.out).mono ?_
        (case side1 => exact sc HR334_2)
        (case side2 => exact HC334_2.out)
        (case side3 => exact sc HR335_2)
        (case side4 => exact HC335_2.out)
        rintro e w10 ⟨rfl, hb⟩
        refine ⟨_, rfl, ?_⟩
        have _ := bs hb
        clear HB
        rename_i HB
        (try clear hb)
        (try clear hb2)
        (try clear hk)
        (try clear hi)
        refine hK.out _ _ ⟨(hc HB hw334_0), (hc HB hw334_1), (hc HB hw334_2), (hc HB hw335_0), (hc HB hw335_1), (hc HB hw335_2)⟩ (fun hHeld => ?_)
        clear hK K
        refine nm 25 ?_
        refine pu 9 26 (bl 10 1023) ?_
        refine done_ (done_of HT_.out (by kernel_rfl)) ?_
        try go_wp2
        go_roundg k1
        case measure => have := HK1.out; omega
        case rel => exact ⟨(wrap64 (x5_1 + 1)), rs, H', ⟨by have := HK1.out; omega⟩, ⟨bq⟩⟩
       ·replace c8 := Bool.eq_false_iff.mpr c8
        subst c8
        have H1 : (some false) = some r := by rw [if_neg (show ¬ (false = true) by decide)] at H; exact H
        clear H
        have H := H1
        clear H1
        obtain rfl := Option.some.inj H
        try go_wp2
        have _ := ra (below_drew1 HB.out)
        clear HB
        rename_i HB
        have p334 : 0 ≤ (x5_1 : Int) := od
        have q334 : x5_1 < (l0.length : Int) := od
        obtain ⟨ad334, A334_2, c334_2, e334, hx334_0, hx334_1, hx334_2, hl334_2, hi334_2⟩ := at_T56 HR0.out x5_1 p334 q334
        have hw334_2 := hx334_2
        have hw334_1 := hx334_1
        have hw334_0 := hx334_0
        cases e334
        replace hx334_0 := hc HB hx334_0
        replace hx334_1 := hc HB hx334_1
        replace hx334_2 := hc HB hx334_2
        have HR334_2 := Aside0.mk hi334_2
        have HC334_2 := Aside0.mk hl334_2
        clear hi334_2 hl334_2
        replace p334 := eq_true p334
        replace q334 := eq_true q334
        have p335 : 0 ≤ (x5_1 : Int) := od
        have q335 : x5_1 < (l1.length : Int) := od
        obtain ⟨ad335, A335_2, c335_2, e335, hx335_0, hx335_1, hx335_2, hl335_2, hi335_2⟩ := at_T56 HR1.out x5_1 p335 q335
        have hw335_2 := hx335_2
        have hw335_1 := hx335_1
        have hw335_0 := hx335_0
        cases e335
        replace hx335_0 := hc HB hx335_0
        replace hx335_1 := hc HB hx335_1
        replace hx335_2 := hc HB hx335_2
        have HR335_2 := Aside0.mk hi335_2
        have HC335_2 := Aside0.mk hl335_2
        clear hi335_2 hl335_2
        replace p335 := eq_true p335
        replace q335 := eq_true q335
        refine start_ (n := 10) (S := fun w' => w'.cell? (ad334.add ((x5_1).toNat * 3)) = some (.int .i64 ((rd_T56 l0 x5_1).f0)) ∧ w'.cell? ⟨(ad334.add ((x5_1).toNat * 3)).block, (ad334.add ((x5_1).toNat * 3)).off + 1, none⟩ = some (.int .i64 ((rd_T56 l0 x5_1).f1)) ∧ w'.cell? ⟨(ad334.add ((x5_1).toNat * 3)).block, (ad334.add ((x5_1).toNat * 3)).off + 2, none⟩ = some (.slice A334_2 ((rd_T56 l0 x5_1).f2).length c334_2) ∧ w'.cell? (ad335.add ((x5_1).toNat * 3)) = some (.int .i64 ((rd_T56 l1 x5_1).f0)) ∧ w'.cell? ⟨(ad335.add ((x5_1).toNat * 3)).block, (ad335.add ((x5_1).toNat * 3)).off + 1, none⟩ = some (.int .i64 ((rd_T56 l1 x5_1).f1)) ∧ w'.cell? ⟨(ad335.add ((x5_1).toNat * 3)).block, (ad335.add ((x5_1).toNat * 3)).off + 2, none⟩ = some (.slice A335_2 ((rd_T56 l1 x5_1).f2).length c335_2)) (ds := []) (bl 10 0) (by kernel_rfl) rfl rfl ⟨(hc HB hw334_0), (hc HB hw334_1), (hc HB hw334_2), (hc HB hw335_0), (hc HB hw335_1), (hc HB hw335_2)⟩ (fun hHeld => ?_); refine with_tabW laws_eqProbeCellS.tab6 laws_eqProbeCellS.bits6 (fun HT_ HW_ => ?_)
        generalize wr.drew = w11 at HB HR334_2 HR335_2 hx334_0 hx334_1 hx334_2 hx335_0 hx335_1 hx335_2 hHeld ⊢
        refine pu 0 17 (bl 10 1) ?_
        refine pu 1 18 (bl 10 3) ?_
        refine pu 2 19 (bl 10 7) ?_
        refine pu 4 21 (bl 10 23) ?_
        refine pu 5 22 (bl 10 55) ?_
        refine pu 6 23 (bl 10 119) ?_
        refine tk 3 20 (bl 10 127) ?_ hHeld
        refine tk 7 24 (bl 10 255) ?_ hHeld
        refine oe 8 25 (bl 10 511) (fun K hK => ?_)
        refine gs Try.func37 #[.agg #[.int .i64 ((rd_T56 l0 x5_1).f0), .int .i64 ((rd_T56 l0 x5_1).f1), .slice A334_2 ((rd_T56 l0 x5_1).f2).length c334_2], .agg #[.int .i64 ((rd_T56 l1 x5_1).f0), .int .i64 ((rd_T56 l1 x5_1).f1), .slice A335_2 ((rd_T56 l1 x5_1).f2).length c335_2]] ?_
        with_reducible refine (laws_eqProbeCell.calls k1 ((rd_T56 l0 x5_1).f0) ((rd_T56 l0 x5_1).f1) _ _ ((rd_T56 l0 x5_1).f2) ((rd_T56 l1 x5_1).f0) ((rd_T56 l1 x5_1).f1) _ _ ((rd_T56 l1 x5_1).f2) false _ ?side1 ?side2 ?side3 ?side4 A7.out).mono ?_
        (case side1 => exact sc HR334_2)
        (case side2 => exact HC334_2.out)
        (case side3 => exact sc HR335_2)
        (case side4 => exact HC335_2.out)
        rintro e w12 ⟨rfl, hb⟩
        refine ⟨_, rfl, ?_⟩
        have _ := bs hb
        clear HB
        rename_i HB
        (try clear hb)
        (try clear hb2)
        (try clear hk)
        (try clear hi)
        refine hK.out _ _ ⟨(hc HB hw334_0), (hc HB hw334_1), (hc HB hw334_2), (hc HB hw335_0), (hc HB hw335_1), (hc HB hw335_2)⟩ (fun hHeld => ?_)
        clear hK K
        refine nm 25 ?_
        refine pu 9 26 (bl 10 1023) ?_
        refine done_ (done_of HT_.out (by kernel_rfl)) ?_
        try go_wp2
        go_ret
        exact ⟨re, bq⟩
      ·rw [if_neg c6] at H
       exact absurd H (by simp)
     ·rw [if_neg c5] at H
      exact absurd H (by simp)
    ·rw [if_neg c4] at H
     have c4b0 : decide (x5_1 < (l0.length : Int)) = false := decide_eq_false c4
     clear c4
     obtain rfl := Option.some.inj H
     go_wp2
     go_ret
     exact ⟨re, bq⟩
 ·rw [if_neg c3] at H
  have c3b0 : ((l0.length : Int) == (l1.length : Int)) = false := beq_eq_false_iff_ne.mpr c3
  have c3b1 : ((l0.length : Int) != (l1.length : Int)) = true := bne_iff_ne.mpr c3
  have c3b2 : (l0.length == l1.length) = false := by first | simpa using c3 | (simp at c3 ⊢; omega)
  obtain rfl := Option.some.inj H
  go_enter Try.func21, Try.ntmps21
  go_wp2
  go_ret
  exact ⟨re, bq⟩
set_option maxHeartbeats 8000000 in
set_option maxRecDepth 100000 in
theorem laws_eqProbeIndex.calls (k : Nat) (A0_0 : Option Addr) (c0_0 : Nat) (l0_0 : List (S56)) (A1_0 : Option Addr) (c1_0 : Nat) (l1_0 : List (S56)) (r : Bool) (w : World) (hr0_0 : Kd.C k56 w A0_0 l0_0.length l0_0) (hc0_0 : l0_0.length ≤ c0_0) (hr1_0 : Kd.C k56 w A1_0 l1_0.length l1_0) (hc1_0 : l1_0.length ≤ c1_0) (h : laws_eqProbeIndex.f k l0_0 l1_0 = some r) :
  Calls Try.prog 8 #[.agg #[.slice A0_0 l0_0.length c0_0], .agg #[.slice A1_0 l1_0.length c1_0]] w fun e w' => e = .returned (.bool r) ∧ Below w.heap.size w w' := by
 have hu26 := Try.underlying26
 have HR0_0 := Aside0.mk hr0_0
 have HC0_0 := Aside0.mk hc0_0
 clear hr0_0 hc0_0
 have HR1_0 := Aside0.mk hr1_0
 have HC1_0 := Aside0.mk hc1_0
 clear hr1_0 hc1_0
 have HB := ra (Below.refl w.heap.size w)
 have H : ((laws_eqProbeCellS.f k l0_0 l1_0).bind fun t339 => (if t339 = true then (some true) else (some false))) = some r := h
 clear h
 obtain ⟨t339, A3, H⟩ := bo H
 by_cases c4 : t339 = true
 ·subst c4
  replace H := it H rfl
  obtain rfl := Option.some.inj H
  go_enter Try.func8, Try.ntmps8
  go_wp2_with (first | ((with_reducible refine gate_dst (N := 2) rfl ?_); refine be 2 #[.slice A0_0 l0_0.length c0_0] 26 ?_; intro gb337 hg w5 hbox hb; have _ := bs hb; have _ := ra (hbox); have _ := bz (w0 := w) hg; have _ := bz (w0 := w) hg; clear HB; rename_i HB BK337 GW337 GE337; clear hb hbox hg) | ((with_reducible refine gate_dst (N := 3) rfl ?_); refine be 3 #[.slice A1_0 l1_0.length c1_0] 26 ?_; intro gb338 hg w6 hbox hb; have _ := bb (bk BK337) hb; have _ := bs hb; have _ := ra (hbox); have _ := bz (w0 := w) hg; have _ := bz (w0 := w) hg; have _ := bn hg (bk BK337); have _ := bm hg (bk BK337); clear BK337 HB; rename_i BK337 HB BK338 GW338 GE338 NB337_338 NB338_337; clear hb hbox hg; have hnb7 := NB337_338.out; have hnc7 := NB338_337.out; obtain ⟨hcz8_0, hfz8_0⟩ := zc1 BK337; obtain ⟨hcz9_0, hfz9_0⟩ := zc1 BK338) | ((with_reducible refine gate_callee (f := 21) rfl ?_); refine gl (some 9) Try.func21 #[.slice A0_0 l0_0.length c0_0, .slice A1_0 l1_0.length c1_0] ?_; (with_reducible refine (laws_eqProbeCellS.calls k _ _ l0_0 _ _ l1_0 true _ ?side1 ?side2 ?side3 ?side4 A3.out).mono ?_); (case side1 => exact sc HR0_0); (case side2 => exact HC0_0.out); (case side3 => exact sc HR1_0); (case side4 => exact HC1_0.out); rintro e w10 ⟨rfl, hb⟩; refine ⟨_, rfl, ?_⟩; have _ := bb (bk BK337) hb; have _ := bb (bk BK338) hb; have _ := bs hb; clear BK337 BK338 HB; rename_i BK337 BK338 HB; (try clear hb); (try clear hb2); (try clear hk); (try clear hi)))
  go_ret
  exact ⟨re, bq⟩
 ·replace c4 := Bool.eq_false_iff.mpr c4
  subst c4
  have H1 : (some false) = some r := by rw [if_neg (show ¬ (false = true) by decide)] at H; exact H
  clear H
  have H := H1
  clear H1
  obtain rfl := Option.some.inj H
  go_enter Try.func8, Try.ntmps8
  go_wp2_with (first | ((with_reducible refine gate_dst (N := 2) rfl ?_); refine be 2 #[.slice A0_0 l0_0.length c0_0] 26 ?_; intro gb337 hg w11 hbox hb; have _ := bs hb; have _ := ra (hbox); have _ := bz (w0 := w) hg; have _ := bz (w0 := w) hg; clear HB; rename_i HB BK337 GW337 GE337; clear hb hbox hg) | ((with_reducible refine gate_dst (N := 3) rfl ?_); refine be 3 #[.slice A1_0 l1_0.length c1_0] 26 ?_; intro gb338 hg w12 hbox hb; have _ := bb (bk BK337) hb; have _ := bs hb; have _ := ra (hbox); have _ := bz (w0 := w) hg; have _ := bz (w0 := w) hg; have _ := bn hg (bk BK337); have _ := bm hg (bk BK337); clear BK337 HB; rename_i BK337 HB BK338 GW338 GE338 NB337_338 NB338_337; clear hb hbox hg; have hnb13 := NB337_338.out; have hnc13 := NB338_337.out; obtain ⟨hcz14_0, hfz14_0⟩ := zc1 BK337; obtain ⟨hcz15_0, hfz15_0⟩ := zc1 BK338) | ((with_reducible refine gate_callee (f := 21) rfl ?_); refine gl (some 9) Try.func21 #[.slice A0_0 l0_0.length c0_0, .slice A1_0 l1_0.length c1_0] ?_; (with_reducible refine (laws_eqProbeCellS.calls k _ _ l0_0 _ _ l1_0 false _ ?side1 ?side2 ?side3 ?side4 A3.out).mono ?_); (case side1 => exact sc HR0_0); (case side2 => exact HC0_0.out); (case side3 => exact sc HR1_0); (case side4 => exact HC1_0.out); rintro e w16 ⟨rfl, hb⟩; refine ⟨_, rfl, ?_⟩; have _ := bb (bk BK337) hb; have _ := bb (bk BK338) hb; have _ := bs hb; clear BK337 BK338 HB; rename_i BK337 BK338 HB; (try clear hb); (try clear hb2); (try clear hk); (try clear hi)))
  go_ret
  exact ⟨re, bq⟩
set_option maxHeartbeats 8000000 in
set_option maxRecDepth 100000 in
theorem laws_markProbeBoxS.calls (k : Nat) (P0_ : Nat → Prop) (u9000_ : Value) (l0 : List (S45)) (a1 : Int) (r1 : Int) (r2 : List (S45)) (w0 w : World) (hB : Below w0.heap.size w0 w) (ho0 : Kd.R k45 45 w w0.heap.size P0_ u9000_ l0) (h : laws_markProbeBoxS.f k l0 a1 = some (r1, r2)) :
  Calls Try.prog 24 #[u9000_, .int .i64 a1] w fun e w' => e = .returned (.int .i64 r1) ∧ Kd.R k45 45 w' w0.heap.size (fun k_ => (P0_ k_ ∨ w.heap.size ≤ k_)) u9000_ r2 ∧ Below w0.heap.size w0 w' ∧ Kept w w' (fun k_ => P0_ k_) := by
 have HO0 := ra (show Kd.R k45 45 w w0.heap.size (fun k_ => (P0_ k_ ∨ w.heap.size ≤ k_)) u9000_ l0 from Kd.R_mono ho0 (fun k_ hk => (.inl hk)))
 have HK := ra (Kept.refl w (fun k_ => P0_ k_))
 have HW0 := Aside0.mk hB.size
 have HB := Aside0.mk hB
 clear hB
 have H : (laws_markProbeBoxS.l0 k l0 a1 0) = some (r1, r2) := h
 clear h
 have H' := Aside0.mk H
 clear H
 go_enter Try.func24, Try.ntmps24
 go_wp2
 go_loopg [1, 5] k (fun kq v1 v5 w' => ∃ (x0_1 : List (S45)) (x1_1 : Int) (x5_1 : Int), v1 = .int .i64 x1_1 ∧ v5 = .int .i64 x5_1 ∧ Aside0 (laws_markProbeBoxS.l0 kq x0_1 x1_1 x5_1 = some (r1, r2)) ∧ Aside0 (kq ≤ k) ∧ Aside0 (Kd.R k45 45 w' w0.heap.size (fun k_ => (P0_ k_ ∨ w.heap.size ≤ k_)) u9000_ x0_1) ∧ Aside0 (Kept w w' (fun k_ => P0_ k_)) ∧ Aside0 (Below w0.heap.size w0 w'))
 case atStart => exact ⟨(l0), (a1), (0), rs, rs, H', ⟨Nat.le_refl _⟩, ⟨rq HO0⟩, ⟨by repeat (first | (with_reducible first | exact HK.out | apply Kept.alloc | apply Kept.drewN | apply Kept.drew) | exact HK.out)⟩, ⟨bq⟩⟩
 case round =>
  clear H'
  obtain ⟨x0_1, x1_1, x5_1, rfl, rfl, HA, HK1, HO_0, HK, HB⟩ := hrel
  cases gk with
  | zero => exact absurd HA.out (by simp [laws_markProbeBoxS.l0])
  | succ k1 =>
   have H := HA.out
   clear HA
   simp only [laws_markProbeBoxS.l0] at H
   by_cases c3 : x5_1 < (x0_1.length : Int)
   ·rw [if_pos c3] at H
    have c3b0 : decide (x5_1 < (x0_1.length : Int)) = true := decide_eq_true c3
    clear c3
    by_cases c4 : 0 ≤ x5_1
    ·rw [if_pos c4] at H
     have c4b0 : decide (0 ≤ x5_1) = true := decide_eq_true c4
     clear c4
     obtain ⟨y354, hy_⟩ : ∃ y_ : List (S45), y_ = (x0_1.set (x5_1 : Int).toNat (⟨x1_1, (rd_T45 x0_1 x5_1).f1, (rd_T45 x0_1 x5_1).f2, (rd_T45 x0_1 x5_1).f3, (rd_T45 x0_1 x5_1).f4, (rd_T45 x0_1 x5_1).f5⟩ : S45)) := ⟨_, rfl⟩
     replace H : ((some (y354.set (x5_1 : Int).toNat (⟨(rd_T45 y354 x5_1).f0, wrap64 (x1_1 + 1), (rd_T45 y354 x5_1).f2, (rd_T45 y354 x5_1).f3, (rd_T45 y354 x5_1).f4, (rd_T45 y354 x5_1).f5⟩ : S45) : List (S45))).bind fun y355 => ((some (y355.set (x5_1 : Int).toNat (⟨(rd_T45 y355 x5_1).f0, (rd_T45 y355 x5_1).f1, wrap64 ((wrap64 (x1_1 + 1)) + 1), (rd_T45 y355 x5_1).f3, (rd_T45 y355 x5_1).f4, (rd_T45 y355 x5_1).f5⟩ : S45) : List (S45))).bind fun y356 => ((some (y356.set (x5_1 : Int).toNat (⟨(rd_T45 y356 x5_1).f0, (rd_T45 y356 x5_1).f1, (rd_T45 y356 x5_1).f2, wrap64 ((wrap64 ((wrap64 (x1_1 + 1)) + 1)) + 1), (rd_T45 y356 x5_1).f4, (rd_T45 y356 x5_1).f5⟩ : S45) : List (S45))).bind fun y357 => ((some (y357.set (x5_1 : Int).toNat (⟨(rd_T45 y357 x5_1).f0, (rd_T45 y357 x5_1).f1, (rd_T45 y357 x5_1).f2, (rd_T45 y357 x5_1).f3, wrap64 ((wrap64 ((wrap64 ((wrap64 (x1_1 + 1)) + 1)) + 1)) + 1), (rd_T45 y357 x5_1).f5⟩ : S45) : List (S45))).bind fun y358 => (laws_markProbeBoxS.l0 k1 (y358.set (x5_1 : Int).toNat (⟨(rd_T45 y358 x5_1).f0, (rd_T45 y358 x5_1).f1, (rd_T45 y358 x5_1).f2, (rd_T45 y358 x5_1).f3, (rd_T45 y358 x5_1).f4, wrap64 ((wrap64 ((wrap64 ((wrap64 ((wrap64 (x1_1 + 1)) + 1)) + 1)) + 1)) + 1)⟩ : S45)) (wrap64 ((wrap64 ((wrap64 ((wrap64 ((wrap64 ((wrap64 (x1_1 + 1)) + 1)) + 1)) + 1)) + 1)) + 1)) (wrap64 (x5_1 + 1))))))) = some (r1, r2) := yh
     have Ny354 := ra hy_
     clear hy_
     obtain ⟨y355, hy_⟩ : ∃ y_ : List (S45), y_ = (y354.set (x5_1 : Int).toNat (⟨(rd_T45 y354 x5_1).f0, wrap64 (x1_1 + 1), (rd_T45 y354 x5_1).f2, (rd_T45 y354 x5_1).f3, (rd_T45 y354 x5_1).f4, (rd_T45 y354 x5_1).f5⟩ : S45)) := ⟨_, rfl⟩
     replace H : ((some (y355.set (x5_1 : Int).toNat (⟨(rd_T45 y355 x5_1).f0, (rd_T45 y355 x5_1).f1, wrap64 ((wrap64 (x1_1 + 1)) + 1), (rd_T45 y355 x5_1).f3, (rd_T45 y355 x5_1).f4, (rd_T45 y355 x5_1).f5⟩ : S45) : List (S45))).bind fun y356 => ((some (y356.set (x5_1 : Int).toNat (⟨(rd_T45 y356 x5_1).f0, (rd_T45 y356 x5_1).f1, (rd_T45 y356 x5_1).f2, wrap64 ((wrap64 ((wrap64 (x1_1 + 1)) + 1)) + 1), (rd_T45 y356 x5_1).f4, (rd_T45 y356 x5_1).f5⟩ : S45) : List (S45))).bind fun y357 => ((some (y357.set (x5_1 : Int).toNat (⟨(rd_T45 y357 x5_1).f0, (rd_T45 y357 x5_1).f1, (rd_T45 y357 x5_1).f2, (rd_T45 y357 x5_1).f3, wrap64 ((wrap64 ((wrap64 ((wrap64 (x1_1 + 1)) + 1)) + 1)) + 1), (rd_T45 y357 x5_1).f5⟩ : S45) : List (S45))).bind fun y358 => (laws_markProbeBoxS.l0 k1 (y358.set (x5_1 : Int).toNat (⟨(rd_T45 y358 x5_1).f0, (rd_T45 y358 x5_1).f1, (rd_T45 y358 x5_1).f2, (rd_T45 y358 x5_1).f3, (rd_T45 y358 x5_1).f4, wrap64 ((wrap64 ((wrap64 ((wrap64 ((wrap64 (x1_1 + 1)) + 1)) + 1)) + 1)) + 1)⟩ : S45)) (wrap64 ((wrap64 ((wrap64 ((wrap64 ((wrap64 ((wrap64 (x1_1 + 1)) + 1)) + 1)) + 1)) + 1)) + 1)) (wrap64 (x5_1 + 1)))))) = some (r1, r2) := yh
     have Ny355 := ra hy_
     clear hy_
     obtain ⟨y356, hy_⟩ : ∃ y_ : List (S45), y_ = (y355.set (x5_1 : Int).toNat (⟨(rd_T45 y355 x5_1).f0, (rd_T45 y355 x5_1).f1, wrap64 ((wrap64 (x1_1 + 1)) + 1), (rd_T45 y355 x5_1).f3, (rd_T45 y355 x5_1).f4, (rd_T45 y355 x5_1).f5⟩ : S45)) := ⟨_, rfl⟩
     replace H : ((some (y356.set (x5_1 : Int).toNat (⟨(rd_T45 y356 x5_1).f0, (rd_T45 y356 x5_1).f1, (rd_T45 y356 x5_1).f2, wrap64 ((wrap64 ((wrap64 (x1_1 + 1)) + 1)) + 1), (rd_T45 y356 x5_1).f4, (rd_T45 y356 x5_1).f5⟩ : S45) : List (S45))).bind fun y357 => ((some (y357.set (x5_1 : Int).toNat (⟨(rd_T45 y357 x5_1).f0, (rd_T45 y357 x5_1).f1, (rd_T45 y357 x5_1).f2, (rd_T45 y357 x5_1).f3, wrap64 ((wrap64 ((wrap64 ((wrap64 (x1_1 + 1)) + 1)) + 1)) + 1), (rd_T45 y357 x5_1).f5⟩ : S45) : List (S45))).bind fun y358 => (laws_markProbeBoxS.l0 k1 (y358.set (x5_1 : Int).toNat (⟨(rd_T45 y358 x5_1).f0, (rd_T45 y358 x5_1).f1, (rd_T45 y358 x5_1).f2, (rd_T45 y358 x5_1).f3, (rd_T45 y358 x5_1).f4, wrap64 ((wrap64 ((wrap64 ((wrap64 ((wrap64 (x1_1 + 1)) + 1)) + 1)) + 1)) + 1)⟩ : S45)) (wrap64 ((wrap64 ((wrap64 ((wrap64 ((wrap64 ((wrap64 (x1_1 + 1)) + 1)) + 1)) + 1)) + 1)) + 1)) (wrap64 (x5_1 + 1))))) = some (r1, r2) := yh
     have Ny356 := ra hy_
     clear hy_
     obtain ⟨y357, hy_⟩ : ∃ y_ : List (S45), y_ = (y356.set (x5_1 : Int).toNat (⟨(rd_T45 y356 x5_1).f0, (rd_T45 y356 x5_1).f1, (rd_T45 y356 x5_1).f2, wrap64 ((wrap64 ((wrap64 (x1_1 + 1)) + 1)) + 1), (rd_T45 y356 x5_1).f4, (rd_T45 y356 x5_1).f5⟩ : S45)) := ⟨_, rfl⟩
     replace H : ((some (y357.set (x5_1 : Int).toNat (⟨(rd_T45 y357 x5_1).f0, (rd_T45 y357 x5_1).f1, (rd_T45 y357 x5_1).f2, (rd_T45 y357 x5_1).f3, wrap64 ((wrap64 ((wrap64 ((wrap64 (x1_1 + 1)) + 1)) + 1)) + 1), (rd_T45 y357 x5_1).f5⟩ : S45) : List (S45))).bind fun y358 => (laws_markProbeBoxS.l0 k1 (y358.set (x5_1 : Int).toNat (⟨(rd_T45 y358 x5_1).f0, (rd_T45 y358 x5_1).f1, (rd_T45 y358 x5_1).f2, (rd_T45 y358 x5_1).f3, (rd_T45 y358 x5_1).f4, wrap64 ((wrap64 ((wrap64 ((wrap64 ((wrap64 (x1_1 + 1)) + 1)) + 1)) + 1)) + 1)⟩ : S45)) (wrap64 ((wrap64 ((wrap64 ((wrap64 ((wrap64 ((wrap64 (x1_1 + 1)) + 1)) + 1)) + 1)) + 1)) + 1)) (wrap64 (x5_1 + 1)))) = some (r1, r2) := yh
     have Ny357 := ra hy_
     clear hy_
     obtain ⟨y358, hy_⟩ : ∃ y_ : List (S45), y_ = (y357.set (x5_1 : Int).toNat (⟨(rd_T45 y357 x5_1).f0, (rd_T45 y357 x5_1).f1, (rd_T45 y357 x5_1).f2, (rd_T45 y357 x5_1).f3, wrap64 ((wrap64 ((wrap64 ((wrap64 (x1_1 + 1)) + 1)) + 1)) + 1), (rd_T45 y357 x5_1).f5⟩ : S45)) := ⟨_, rfl⟩
     replace H : (laws_markProbeBoxS.l0 k1 (y358.set (x5_1 : Int).toNat (⟨(rd_T45 y358 x5_1).f0, (rd_T45 y358 x5_1).f1, (rd_T45 y358 x5_1).f2, (rd_T45 y358 x5_1).f3, (rd_T45 y358 x5_1).f4, wrap64 ((wrap64 ((wrap64 ((wrap64 ((wrap64 (x1_1 + 1)) + 1)) + 1)) + 1)) + 1)⟩ : S45)) (wrap64 ((wrap64 ((wrap64 ((wrap64 ((wrap64 ((wrap64 (x1_1 + 1)) + 1)) + 1)) + 1)) + 1)) + 1)) (wrap64 (x5_1 + 1))) = some (r1, r2) := yh
     have Ny358 := ra hy_
     clear hy_
     obtain ⟨y359, hy_⟩ : ∃ y_ : List (S45), y_ = (y358.set (x5_1 : Int).toNat (⟨(rd_T45 y358 x5_1).f0, (rd_T45 y358 x5_1).f1, (rd_T45 y358 x5_1).f2, (rd_T45 y358 x5_1).f3, (rd_T45 y358 x5_1).f4, wrap64 ((wrap64 ((wrap64 ((wrap64 ((wrap64 (x1_1 + 1)) + 1)) + 1)) + 1)) + 1)⟩ : S45)) := ⟨_, rfl⟩
     replace H : (laws_markProbeBoxS.l0 k1 y359 (wrap64 ((wrap64 ((wrap64 ((wrap64 ((wrap64 ((wrap64 (x1_1 + 1)) + 1)) + 1)) + 1)) + 1)) + 1)) (wrap64 (x5_1 + 1))) = some (r1, r2) := yh
     have Ny359 := ra hy_
     clear hy_
     have H' := Aside0.mk H
     clear H
     obtain ⟨Ao11, co11, eo11⟩ := Kd.R_slice HO_0.out
     subst eo11
     have p5 : 0 ≤ (x5_1 : Int) := od
     have q5 : (x5_1 : Int) < ((x0_1.length : Int) : Int) := od
     obtain ⟨go5, co5, eo5, gb5, gl5, cl5, HG5⟩ := Kd.R_form HO_0.out (by omega)
     (first | cases eo5 | (injection eo5 with ea_ en_ ec_; (first | subst ea_ | (injection ea_ with ea_; subst ea_)); subst ec_; clear en_))
     have GB5 := Aside0.mk gb5
     have GG5 := Aside0.mk HG5
     clear gb5 gl5 HG5
     have HMgo5 := ra (show (P0_ go5 ∨ w.heap.size ≤ go5) from (HO_0.out.1 _ rfl))
     obtain ⟨ce5, hcl5, hM5, hcc5, hfr5⟩ := Kd.R_elem HO_0.out z45 (x5_1 : Int) p5 q5
     obtain rfl := k45_openM hM5
     have hx5_0 : wr.cell? ⟨go5, (x5_1 : Int).toNat * 6, none⟩ = some (.int .i64 ((rd_T45 x0_1 x5_1).f0)) := hcc5 0 _ rfl
     have hx5_1 : wr.cell? ⟨go5, (x5_1 : Int).toNat * 6 + 1, none⟩ = some (.int .i64 ((rd_T45 x0_1 x5_1).f1)) := hcc5 1 _ rfl
     have hx5_2 : wr.cell? ⟨go5, (x5_1 : Int).toNat * 6 + 2, none⟩ = some (.int .i64 ((rd_T45 x0_1 x5_1).f2)) := hcc5 2 _ rfl
     have hx5_3 : wr.cell? ⟨go5, (x5_1 : Int).toNat * 6 + 3, none⟩ = some (.int .i64 ((rd_T45 x0_1 x5_1).f3)) := hcc5 3 _ rfl
     have hx5_4 : wr.cell? ⟨go5, (x5_1 : Int).toNat * 6 + 4, none⟩ = some (.int .i64 ((rd_T45 x0_1 x5_1).f4)) := hcc5 4 _ rfl
     have hx5_5 : wr.cell? ⟨go5, (x5_1 : Int).toNat * 6 + 5, none⟩ = some (.int .i64 ((rd_T45 x0_1 x5_1).f5)) := hcc5 5 _ rfl
     have hf5_0 : wr.frozen? ⟨go5, (x5_1 : Int).toNat * 6, none⟩ = false := hfr5 0
     have hf5_1 : wr.frozen? ⟨go5, (x5_1 : Int).toNat * 6 + 1, none⟩ = false := hfr5 1
     have hf5_2 : wr.frozen? ⟨go5, (x5_1 : Int).toNat * 6 + 2, none⟩ = false := hfr5 2
     have hf5_3 : wr.frozen? ⟨go5, (x5_1 : Int).toNat * 6 + 3, none⟩ = false := hfr5 3
     have hf5_4 : wr.frozen? ⟨go5, (x5_1 : Int).toNat * 6 + 4, none⟩ = false := hfr5 4
     have hf5_5 : wr.frozen? ⟨go5, (x5_1 : Int).toNat * 6 + 5, none⟩ = false := hfr5 5
     clear hcl5 hcc5 hfr5 hM5
     replace p5 := eq_true p5
     replace q5 := eq_true q5
     have HX12 := ra (show Kd.R k45 45 wr w0.heap.size (fun k_ => (P0_ k_ ∨ w.heap.size ≤ k_)) (.slice (some ⟨go5, 0, none⟩) x0_1.length co11) x0_1 from (rq HO_0))
     obtain ⟨ce12, hcl12, hM12, hcc12, hfr12⟩ := Kd.R_elem HX12.out z45 (x5_1 : Int) (od) (by have h_ : (x5_1 : Int) < ((x0_1.length : Int) : Int) := od; first | exact h_ | (have e_ := (Kd.R_reads' HO_0.out).1; omega) | simpa using h_)
     obtain rfl := k45_openM hM12
     have HP12 := Kd.R_seg HX12.out (x5_1 : Int) (od) (by have h_ : (x5_1 : Int) < ((x0_1.length : Int) : Int) := od; first | exact h_ | (have e_ := (Kd.R_reads' HO_0.out).1; omega) | simpa using h_) (seg := [.int .i64 x1_1]) (j := 0) hcl12 hcc12 (show 1 ≤ 6 from by decide) (x' := (⟨x1_1, (rd_T45 x0_1 x5_1).f1, (rd_T45 x0_1 x5_1).f2, (rd_T45 x0_1 x5_1).f3, (rd_T45 x0_1 x5_1).f4, (rd_T45 x0_1 x5_1).f5⟩ : S45)) (k45_mkM _ _ _ (⟨x1_1, (rd_T45 x0_1 x5_1).f1, (rd_T45 x0_1 x5_1).f2, (rd_T45 x0_1 x5_1).f3, (rd_T45 x0_1 x5_1).f4, (rd_T45 x0_1 x5_1).f5⟩ : S45) ) (fun _ hk => hk)
     have hx12_0 := hcc12 0 _ rfl
     (try simp only [show (k45).sz = 6 from rfl, Nat.mul_one, Nat.add_zero] at hx12_0)
     have hf12_0 := hfr12 0
     (try simp only [show (k45).sz = 6 from rfl, Nat.mul_one, Nat.add_zero] at hf12_0)
     clear hcl12 hcc12 hfr12 hM12
     go_wp2_with (first | ((with_reducible refine gate_store (t := 3) (p := 16) rfl ?_); refine store_event (t := 3) (p := 16) (v := ?vo_w13) (w1 := (wr.setCell ⟨go5, (x5_1 : Int).toNat * 6, none⟩ (.int .i64 x1_1))) ?hg ?ho ?hn ?hr ?_; (case ho => rfl); (case hg => rfl); (case hn => rfl); (case hr => first | (go_simp; done) | (go_simp; rfl)); intro w13 hw; have hg : wr.grownBy w13 (some go5) := (by rw [hw]; exact HP12.2); have hp_ : Kd.R k45 45 w13 w0.heap.size (fun k_ => (P0_ k_ ∨ w.heap.size ≤ k_)) (.slice (some ⟨go5, 0, none⟩) x0_1.length co11) y354 := (by rw [hw, Ny354.out]; exact HP12.1); clear HP12; have _ := ra (hp_); have _ := ra ((by rw [hw]; exact below_set (HB.out) GB5.out : Below w0.heap.size w0 w13)); have _ := ra (Kept.of_grown (S := (fun k_ => P0_ k_)) hg (by repeat (first | (with_reducible first | exact HK.out | apply Kept.alloc | apply Kept.drewN | apply Kept.drew) | exact HK.out)) (fun k_ e_ => (HO_0.out.1 k_ e_))); clear HO_0 HB HK; rename_i HO_0 HB HK; clear hg hw hp_; have p6 : 0 ≤ (x5_1 : Int) := od; have q6 : (x5_1 : Int) < ((x0_1.length : Int) : Int) := od; obtain ⟨ce6, hcl6, hM6, hcc6, hfr6⟩ := Kd.R_elem HO_0.out z45 (x5_1 : Int) p6 q6; obtain rfl := k45_openM hM6; have hx6_0 : w13.cell? ⟨go5, (x5_1 : Int).toNat * 6, none⟩ = some (.int .i64 ((rd_T45 y354 x5_1).f0)) := hcc6 0 _ rfl; have hx6_1 : w13.cell? ⟨go5, (x5_1 : Int).toNat * 6 + 1, none⟩ = some (.int .i64 ((rd_T45 y354 x5_1).f1)) := hcc6 1 _ rfl; have hx6_2 : w13.cell? ⟨go5, (x5_1 : Int).toNat * 6 + 2, none⟩ = some (.int .i64 ((rd_T45 y354 x5_1).f2)) := hcc6 2 _ rfl; have hx6_3 : w13.cell? ⟨go5, (x5_1 : Int).toNat * 6 + 3, none⟩ = some (.int .i64 ((rd_T45 y354 x5_1).f3)) := hcc6 3 _ rfl; have hx6_4 : w13.cell? ⟨go5, (x5_1 : Int).toNat * 6 + 4, none⟩ = some (.int .i64 ((rd_T45 y354 x5_1).f4)) := hcc6 4 _ rfl; have hx6_5 : w13.cell? ⟨go5, (x5_1 : Int).toNat * 6 + 5, none⟩ = some (.int .i64 ((rd_T45 y354 x5_1).f5)) := hcc6 5 _ rfl; have hf6_0 : w13.frozen? ⟨go5, (x5_1 : Int).toNat * 6, none⟩ = false := hfr6 0; have hf6_1 : w13.frozen? ⟨go5, (x5_1 : Int).toNat * 6 + 1, none⟩ = false := hfr6 1; have hf6_2 : w13.frozen? ⟨go5, (x5_1 : Int).toNat * 6 + 2, none⟩ = false := hfr6 2; have hf6_3 : w13.frozen? ⟨go5, (x5_1 : Int).toNat * 6 + 3, none⟩ = false := hfr6 3; have hf6_4 : w13.frozen? ⟨go5, (x5_1 : Int).toNat * 6 + 4, none⟩ = false := hfr6 4; have hf6_5 : w13.frozen? ⟨go5, (x5_1 : Int).toNat * 6 + 5, none⟩ = false := hfr6 5; clear hcl6 hcc6 hfr6 hM6; replace p6 := eq_true p6; replace q6 := eq_true q6; have HX14 := ra (show Kd.R k45 45 w13 w0.heap.size (fun k_ => (P0_ k_ ∨ w.heap.size ≤ k_)) (.slice (some ⟨go5, 0, none⟩) x0_1.length co11) y354 from (rq HO_0)); obtain ⟨ce14, hcl14, hM14, hcc14, hfr14⟩ := Kd.R_elem HX14.out z45 (x5_1 : Int) (od) (by have h_ : (x5_1 : Int) < ((x0_1.length : Int) : Int) := od; first | exact h_ | (have e_ := (Kd.R_reads' HO_0.out).1; omega) | simpa using h_); obtain rfl := k45_openM hM14; have HP14 := Kd.R_seg HX14.out (x5_1 : Int) (od) (by have h_ : (x5_1 : Int) < ((x0_1.length : Int) : Int) := od; first | exact h_ | (have e_ := (Kd.R_reads' HO_0.out).1; omega) | simpa using h_) (seg := [.int .i64 (wrap64 (x1_1 + 1))]) (j := 1) hcl14 hcc14 (show 2 ≤ 6 from by decide) (x' := (⟨(rd_T45 y354 x5_1).f0, wrap64 (x1_1 + 1), (rd_T45 y354 x5_1).f2, (rd_T45 y354 x5_1).f3, (rd_T45 y354 x5_1).f4, (rd_T45 y354 x5_1).f5⟩ : S45)) (k45_mkM _ _ _ (⟨(rd_T45 y354 x5_1).f0, wrap64 (x1_1 + 1), (rd_T45 y354 x5_1).f2, (rd_T45 y354 x5_1).f3, (rd_T45 y354 x5_1).f4, (rd_T45 y354 x5_1).f5⟩ : S45) ) (fun _ hk => hk); have hx14_1 := hcc14 1 _ rfl; (try simp only [show (k45).sz = 6 from rfl, Nat.mul_one, Nat.add_zero] at hx14_1); have hf14_1 := hfr14 1; (try simp only [show (k45).sz = 6 from rfl, Nat.mul_one, Nat.add_zero] at hf14_1); clear hcl14 hcc14 hfr14 hM14) | ((with_reducible refine gate_store (t := 3) (p := 23) rfl ?_); refine store_event (t := 3) (p := 23) (v := ?vo_w15) (w1 := (w13.setCell ⟨go5, (x5_1 : Int).toNat * 6 + 1, none⟩ (.int .i64 (wrap64 (x1_1 + 1))))) ?hg ?ho ?hn ?hr ?_; (case ho => rfl); (case hg => rfl); (case hn => rfl); (case hr => first | (go_simp; done) | (go_simp; rfl)); intro w15 hw; have hg : w13.grownBy w15 (some go5) := (by rw [hw]; exact HP14.2); have hp_ : Kd.R k45 45 w15 w0.heap.size (fun k_ => (P0_ k_ ∨ w.heap.size ≤ k_)) (.slice (some ⟨go5, 0, none⟩) x0_1.length co11) y355 := (by rw [hw, Ny355.out]; exact HP14.1); clear HP14; have _ := ra (hp_); have _ := ra ((by rw [hw]; exact below_set (HB.out) GB5.out : Below w0.heap.size w0 w15)); have _ := ra (Kept.of_grown (S := (fun k_ => P0_ k_)) hg (by repeat (first | (with_reducible first | exact HK.out | apply Kept.alloc | apply Kept.drewN | apply Kept.drew) | exact HK.out)) (fun k_ e_ => (HO_0.out.1 k_ e_))); clear HO_0 HB HK; rename_i HO_0 HB HK; clear hg hw hp_; have p7 : 0 ≤ (x5_1 : Int) := od; have q7 : (x5_1 : Int) < ((x0_1.length : Int) : Int) := od; obtain ⟨ce7, hcl7, hM7, hcc7, hfr7⟩ := Kd.R_elem HO_0.out z45 (x5_1 : Int) p7 q7; obtain rfl := k45_openM hM7; have hx7_0 : w15.cell? ⟨go5, (x5_1 : Int).toNat * 6, none⟩ = some (.int .i64 ((rd_T45 y355 x5_1).f0)) := hcc7 0 _ rfl; have hx7_1 : w15.cell? ⟨go5, (x5_1 : Int).toNat * 6 + 1, none⟩ = some (.int .i64 ((rd_T45 y355 x5_1).f1)) := hcc7 1 _ rfl; have hx7_2 : w15.cell? ⟨go5, (x5_1 : Int).toNat * 6 + 2, none⟩ = some (.int .i64 ((rd_T45 y355 x5_1).f2)) := hcc7 2 _ rfl; have hx7_3 : w15.cell? ⟨go5, (x5_1 : Int).toNat * 6 + 3, none⟩ = some (.int .i64 ((rd_T45 y355 x5_1).f3)) := hcc7 3 _ rfl; have hx7_4 : w15.cell? ⟨go5, (x5_1 : Int).toNat * 6 + 4, none⟩ = some (.int .i64 ((rd_T45 y355 x5_1).f4)) := hcc7 4 _ rfl; have hx7_5 : w15.cell? ⟨go5, (x5_1 : Int).toNat * 6 + 5, none⟩ = some (.int .i64 ((rd_T45 y355 x5_1).f5)) := hcc7 5 _ rfl; have hf7_0 : w15.frozen? ⟨go5, (x5_1 : Int).toNat * 6, none⟩ = false := hfr7 0; have hf7_1 : w15.frozen? ⟨go5, (x5_1 : Int).toNat * 6 + 1, none⟩ = false := hfr7 1; have hf7_2 : w15.frozen? ⟨go5, (x5_1 : Int).toNat * 6 + 2, none⟩ = false := hfr7 2; have hf7_3 : w15.frozen? ⟨go5, (x5_1 : Int).toNat * 6 + 3, none⟩ = false := hfr7 3; have hf7_4 : w15.frozen? ⟨go5, (x5_1 : Int).toNat * 6 + 4, none⟩ = false := hfr7 4; have hf7_5 : w15.frozen? ⟨go5, (x5_1 : Int).toNat * 6 + 5, none⟩ = false := hfr7 5; clear hcl7 hcc7 hfr7 hM7; replace p7 := eq_true p7; replace q7 := eq_true q7; have HX16 := ra (show Kd.R k45 45 w15 w0.heap.size (fun k_ => (P0_ k_ ∨ w.heap.size ≤ k_)) (.slice (some ⟨go5, 0, none⟩) x0_1.length co11) y355 from (rq HO_0)); obtain ⟨ce16, hcl16, hM16, hcc16, hfr16⟩ := Kd.R_elem HX16.out z45 (x5_1 : Int) (od) (by have h_ : (x5_1 : Int) < ((x0_1.length : Int) : Int) := od; first | exact h_ | (have e_ := (Kd.R_reads' HO_0.out).1; omega) | simpa using h_); obtain rfl := k45_openM hM16; have HP16 := Kd.R_seg HX16.out (x5_1 : Int) (od) (by have h_ : (x5_1 : Int) < ((x0_1.length : Int) : Int) := od; first | exact h_ | (have e_ := (Kd.R_reads' HO_0.out).1; omega) | simpa using h_) (seg := [.int .i64 (wrap64 ((wrap64 (x1_1 + 1)) + 1))]) (j := 2) hcl16 hcc16 (show 3 ≤ 6 from by decide) (x' := (⟨(rd_T45 y355 x5_1).f0, (rd_T45 y355 x5_1).f1, wrap64 ((wrap64 (x1_1 + 1)) + 1), (rd_T45 y355 x5_1).f3, (rd_T45 y355 x5_1).f4, (rd_T45 y355 x5_1).f5⟩ : S45)) (k45_mkM _ _ _ (⟨(rd_T45 y355 x5_1).f0, (rd_T45 y355 x5_1).f1, wrap64 ((wrap64 (x1_1 + 1)) + 1), (rd_T45 y355 x5_1).f3, (rd_T45 y355 x5_1).f4, (rd_T45 y355 x5_1).f5⟩ : S45) ) (fun _ hk => hk); have hx16_2 := hcc16 2 _ rfl; (try simp only [show (k45).sz = 6 from rfl, Nat.mul_one, Nat.add_zero] at hx16_2); have hf16_2 := hfr16 2; (try simp only [show (k45).sz = 6 from rfl, Nat.mul_one, Nat.add_zero] at hf16_2); clear hcl16 hcc16 hfr16 hM16) | ((with_reducible refine gate_store (t := 3) (p := 30) rfl ?_); refine store_event (t := 3) (p := 30) (v := ?vo_w17) (w1 := (w15.setCell ⟨go5, (x5_1 : Int).toNat * 6 + 2, none⟩ (.int .i64 (wrap64 ((wrap64 (x1_1 + 1)) + 1))))) ?hg ?ho ?hn ?hr ?_; (case ho => rfl); (case hg => rfl); (case hn => rfl); (case hr => first | (go_simp; done) | (go_simp; rfl)); intro w17 hw; have hg : w15.grownBy w17 (some go5) := (by rw [hw]; exact HP16.2); have hp_ : Kd.R k45 45 w17 w0.heap.size (fun k_ => (P0_ k_ ∨ w.heap.size ≤ k_)) (.slice (some ⟨go5, 0, none⟩) x0_1.length co11) y356 := (by rw [hw, Ny356.out]; exact HP16.1); clear HP16; have _ := ra (hp_); have _ := ra ((by rw [hw]; exact below_set (HB.out) GB5.out : Below w0.heap.size w0 w17)); have _ := ra (Kept.of_grown (S := (fun k_ => P0_ k_)) hg (by repeat (first | (with_reducible first | exact HK.out | apply Kept.alloc | apply Kept.drewN | apply Kept.drew) | exact HK.out)) (fun k_ e_ => (HO_0.out.1 k_ e_))); clear HO_0 HB HK; rename_i HO_0 HB HK; clear hg hw hp_; have p8 : 0 ≤ (x5_1 : Int) := od; have q8 : (x5_1 : Int) < ((x0_1.length : Int) : Int) := od; obtain ⟨ce8, hcl8, hM8, hcc8, hfr8⟩ := Kd.R_elem HO_0.out z45 (x5_1 : Int) p8 q8; obtain rfl := k45_openM hM8; have hx8_0 : w17.cell? ⟨go5, (x5_1 : Int).toNat * 6, none⟩ = some (.int .i64 ((rd_T45 y356 x5_1).f0)) := hcc8 0 _ rfl; have hx8_1 : w17.cell? ⟨go5, (x5_1 : Int).toNat * 6 + 1, none⟩ = some (.int .i64 ((rd_T45 y356 x5_1).f1)) := hcc8 1 _ rfl; have hx8_2 : w17.cell? ⟨go5, (x5_1 : Int).toNat * 6 + 2, none⟩ = some (.int .i64 ((rd_T45 y356 x5_1).f2)) := hcc8 2 _ rfl; have hx8_3 : w17.cell? ⟨go5, (x5_1 : Int).toNat * 6 + 3, none⟩ = some (.int .i64 ((rd_T45 y356 x5_1).f3)) := hcc8 3 _ rfl; have hx8_4 : w17.cell? ⟨go5, (x5_1 : Int).toNat * 6 + 4, none⟩ = some (.int .i64 ((rd_T45 y356 x5_1).f4)) := hcc8 4 _ rfl; have hx8_5 : w17.cell? ⟨go5, (x5_1 : Int).toNat * 6 + 5, none⟩ = some (.int .i64 ((rd_T45 y356 x5_1).f5)) := hcc8 5 _ rfl; have hf8_0 : w17.frozen? ⟨go5, (x5_1 : Int).toNat * 6, none⟩ = false := hfr8 0; have hf8_1 : w17.frozen? ⟨go5, (x5_1 : Int).toNat * 6 + 1, none⟩ = false := hfr8 1; have hf8_2 : w17.frozen? ⟨go5, (x5_1 : Int).toNat * 6 + 2, none⟩ = false := hfr8 2; have hf8_3 : w17.frozen? ⟨go5, (x5_1 : Int).toNat * 6 + 3, none⟩ = false := hfr8 3; have hf8_4 : w17.frozen? ⟨go5, (x5_1 : Int).toNat * 6 + 4, none⟩ = false := hfr8 4; have hf8_5 : w17.frozen? ⟨go5, (x5_1 : Int).toNat * 6 + 5, none⟩ = false := hfr8 5; clear hcl8 hcc8 hfr8 hM8; replace p8 := eq_true p8; replace q8 := eq_true q8; have HX18 := ra (show Kd.R k45 45 w17 w0.heap.size (fun k_ => (P0_ k_ ∨ w.heap.size ≤ k_)) (.slice (some ⟨go5, 0, none⟩) x0_1.length co11) y356 from (rq HO_0)); obtain ⟨ce18, hcl18, hM18, hcc18, hfr18⟩ := Kd.R_elem HX18.out z45 (x5_1 : Int) (od) (by have h_ : (x5_1 : Int) < ((x0_1.length : Int) : Int) := od; first | exact h_ | (have e_ := (Kd.R_reads' HO_0.out).1; omega) | simpa using h_); obtain rfl := k45_openM hM18; have HP18 := Kd.R_seg HX18.out (x5_1 : Int) (od) (by have h_ : (x5_1 : Int) < ((x0_1.length : Int) : Int) := od; first | exact h_ | (have e_ := (Kd.R_reads' HO_0.out).1; omega) | simpa using h_) (seg := [.int .i64 (wrap64 ((wrap64 ((wrap64 (x1_1 + 1)) + 1)) + 1))]) (j := 3) hcl18 hcc18 (show 4 ≤ 6 from by decide) (x' := (⟨(rd_T45 y356 x5_1).f0, (rd_T45 y356 x5_1).f1, (rd_T45 y356 x5_1).f2, wrap64 ((wrap64 ((wrap64 (x1_1 + 1)) + 1)) + 1), (rd_T45 y356 x5_1).f4, (rd_T45 y356 x5_1).f5⟩ : S45)) (k45_mkM _ _ _ (⟨(rd_T45 y356 x5_1).f0, (rd_T45 y356 x5_1).f1, (rd_T45 y356 x5_1).f2, wrap64 ((wrap64 ((wrap64 (x1_1 + 1)) + 1)) + 1), (rd_T45 y356 x5_1).f4, (rd_T45 y356 x5_1).f5⟩ : S45) ) (fun _ hk => hk); have hx18_3 := hcc18 3 _ rfl; (try simp only [show (k45).sz = 6 from rfl, Nat.mul_one, Nat.add_zero] at hx18_3); have hf18_3 := hfr18 3; (try simp only [show (k45).sz = 6 from rfl, Nat.mul_one, Nat.add_zero] at hf18_3); clear hcl18 hcc18 hfr18 hM18) | ((with_reducible refine gate_store (t := 3) (p := 37) rfl ?_); refine store_event (t := 3) (p := 37) (v := ?vo_w19) (w1 := (w17.setCell ⟨go5, (x5_1 : Int).toNat * 6 + 3, none⟩ (.int .i64 (wrap64 ((wrap64 ((wrap64 (x1_1 + 1)) + 1)) + 1))))) ?hg ?ho ?hn ?hr ?_; (case ho => rfl); (case hg => rfl); (case hn => rfl); (case hr => first | (go_simp; done) | (go_simp; rfl)); intro w19 hw; have hg : w17.grownBy w19 (some go5) := (by rw [hw]; exact HP18.2); have hp_ : Kd.R k45 45 w19 w0.heap.size (fun k_ => (P0_ k_ ∨ w.heap.size ≤ k_)) (.slice (some ⟨go5, 0, none⟩) x0_1.length co11) y357 := (by rw [hw, Ny357.out]; exact HP18.1); clear HP18; have _ := ra (hp_); have _ := ra ((by rw [hw]; exact below_set (HB.out) GB5.out : Below w0.heap.size w0 w19)); have _ := ra (Kept.of_grown (S := (fun k_ => P0_ k_)) hg (by repeat (first | (with_reducible first | exact HK.out | apply Kept.alloc | apply Kept.drewN | apply Kept.drew) | exact HK.out)) (fun k_ e_ => (HO_0.out.1 k_ e_))); clear HO_0 HB HK; rename_i HO_0 HB HK; clear hg hw hp_; have p9 : 0 ≤ (x5_1 : Int) := od; have q9 : (x5_1 : Int) < ((x0_1.length : Int) : Int) := od; obtain ⟨ce9, hcl9, hM9, hcc9, hfr9⟩ := Kd.R_elem HO_0.out z45 (x5_1 : Int) p9 q9; obtain rfl := k45_openM hM9; have hx9_0 : w19.cell? ⟨go5, (x5_1 : Int).toNat * 6, none⟩ = some (.int .i64 ((rd_T45 y357 x5_1).f0)) := hcc9 0 _ rfl; have hx9_1 : w19.cell? ⟨go5, (x5_1 : Int).toNat * 6 + 1, none⟩ = some (.int .i64 ((rd_T45 y357 x5_1).f1)) := hcc9 1 _ rfl; have hx9_2 : w19.cell? ⟨go5, (x5_1 : Int).toNat * 6 + 2, none⟩ = some (.int .i64 ((rd_T45 y357 x5_1).f2)) := hcc9 2 _ rfl; have hx9_3 : w19.cell? ⟨go5, (x5_1 : Int).toNat * 6 + 3, none⟩ = some (.int .i64 ((rd_T45 y357 x5_1).f3)) := hcc9 3 _ rfl; have hx9_4 : w19.cell? ⟨go5, (x5_1 : Int).toNat * 6 + 4, none⟩ = some (.int .i64 ((rd_T45 y357 x5_1).f4)) := hcc9 4 _ rfl; have hx9_5 : w19.cell? ⟨go5, (x5_1 : Int).toNat * 6 + 5, none⟩ = some (.int .i64 ((rd_T45 y357 x5_1).f5)) := hcc9 5 _ rfl; have hf9_0 : w19.frozen? ⟨go5, (x5_1 : Int).toNat * 6, none⟩ = false := hfr9 0; have hf9_1 : w19.frozen? ⟨go5, (x5_1 : Int).toNat * 6 + 1, none⟩ = false := hfr9 1; have hf9_2 : w19.frozen? ⟨go5, (x5_1 : Int).toNat * 6 + 2, none⟩ = false := hfr9 2; have hf9_3 : w19.frozen? ⟨go5, (x5_1 : Int).toNat * 6 + 3, none⟩ = false := hfr9 3; have hf9_4 : w19.frozen? ⟨go5, (x5_1 : Int).toNat * 6 + 4, none⟩ = false := hfr9 4; have hf9_5 : w19.frozen? ⟨go5, (x5_1 : Int).toNat * 6 + 5, none⟩ = false := hfr9 5; clear hcl9 hcc9 hfr9 hM9; replace p9 := eq_true p9; replace q9 := eq_true q9; have HX20 := ra (show Kd.R k45 45 w19 w0.heap.size (fun k_ => (P0_ k_ ∨ w.heap.size ≤ k_)) (.slice (some ⟨go5, 0, none⟩) x0_1.length co11) y357 from (rq HO_0)); obtain ⟨ce20, hcl20, hM20, hcc20, hfr20⟩ := Kd.R_elem HX20.out z45 (x5_1 : Int) (od) (by have h_ : (x5_1 : Int) < ((x0_1.length : Int) : Int) := od; first | exact h_ | (have e_ := (Kd.R_reads' HO_0.out).1; omega) | simpa using h_); obtain rfl := k45_openM hM20; have HP20 := Kd.R_seg HX20.out (x5_1 : Int) (od) (by have h_ : (x5_1 : Int) < ((x0_1.length : Int) : Int) := od; first | exact h_ | (have e_ := (Kd.R_reads' HO_0.out).1; omega) | simpa using h_) (seg := [.int .i64 (wrap64 ((wrap64 ((wrap64 ((wrap64 (x1_1 + 1)) + 1)) + 1)) + 1))]) (j := 4) hcl20 hcc20 (show 5 ≤ 6 from by decide) (x' := (⟨(rd_T45 y357 x5_1).f0, (rd_T45 y357 x5_1).f1, (rd_T45 y357 x5_1).f2, (rd_T45 y357 x5_1).f3, wrap64 ((wrap64 ((wrap64 ((wrap64 (x1_1 + 1)) + 1)) + 1)) + 1), (rd_T45 y357 x5_1).f5⟩ : S45)) (k45_mkM _ _ _ (⟨(rd_T45 y357 x5_1).f0, (rd_T45 y357 x5_1).f1, (rd_T45 y357 x5_1).f2, (rd_T45 y357 x5_1).f3, wrap64 ((wrap64 ((wrap64 ((wrap64 (x1_1 + 1)) + 1)) + 1)) + 1), (rd_T45 y357 x5_1).f5⟩ : S45) ) (fun _ hk => hk); have hx20_4 := hcc20 4 _ rfl; (try simp only [show (k45).sz = 6 from rfl, Nat.mul_one, Nat.add_zero] at hx20_4); have hf20_4 := hfr20 4; (try simp only [show (k45).sz = 6 from rfl, Nat.mul_one, Nat.add_zero] at hf20_4); clear hcl20 hcc20 hfr20 hM20) | ((with_reducible refine gate_store (t := 3) (p := 44) rfl ?_); refine store_event (t := 3) (p := 44) (v := ?vo_w21) (w1 := (w19.setCell ⟨go5, (x5_1 : Int).toNat * 6 + 4, none⟩ (.int .i64 (wrap64 ((wrap64 ((wrap64 ((wrap64 (x1_1 + 1)) + 1)) + 1)) + 1))))) ?hg ?ho ?hn ?hr ?_; (case ho => rfl); (case hg => rfl); (case hn => rfl); (case hr => first | (go_simp; done) | (go_simp; rfl)); intro w21 hw; have hg : w19.grownBy w21 (some go5) := (by rw [hw]; exact HP20.2); have hp_ : Kd.R k45 45 w21 w0.heap.size (fun k_ => (P0_ k_ ∨ w.heap.size ≤ k_)) (.slice (some ⟨go5, 0, none⟩) x0_1.length co11) y358 := (by rw [hw, Ny358.out]; exact HP20.1); clear HP20; have _ := ra (hp_); have _ := ra ((by rw [hw]; exact below_set (HB.out) GB5.out : Below w0.heap.size w0 w21)); have _ := ra (Kept.of_grown (S := (fun k_ => P0_ k_)) hg (by repeat (first | (with_reducible first | exact HK.out | apply Kept.alloc | apply Kept.drewN | apply Kept.drew) | exact HK.out)) (fun k_ e_ => (HO_0.out.1 k_ e_))); clear HO_0 HB HK; rename_i HO_0 HB HK; clear hg hw hp_; have p10 : 0 ≤ (x5_1 : Int) := od; have q10 : (x5_1 : Int) < ((x0_1.length : Int) : Int) := od; obtain ⟨ce10, hcl10, hM10, hcc10, hfr10⟩ := Kd.R_elem HO_0.out z45 (x5_1 : Int) p10 q10; obtain rfl := k45_openM hM10; have hx10_0 : w21.cell? ⟨go5, (x5_1 : Int).toNat * 6, none⟩ = some (.int .i64 ((rd_T45 y358 x5_1).f0)) := hcc10 0 _ rfl; have hx10_1 : w21.cell? ⟨go5, (x5_1 : Int).toNat * 6 + 1, none⟩ = some (.int .i64 ((rd_T45 y358 x5_1).f1)) := hcc10 1 _ rfl; have hx10_2 : w21.cell? ⟨go5, (x5_1 : Int).toNat * 6 + 2, none⟩ = some (.int .i64 ((rd_T45 y358 x5_1).f2)) := hcc10 2 _ rfl; have hx10_3 : w21.cell? ⟨go5, (x5_1 : Int).toNat * 6 + 3, none⟩ = some (.int .i64 ((rd_T45 y358 x5_1).f3)) := hcc10 3 _ rfl; have hx10_4 : w21.cell? ⟨go5, (x5_1 : Int).toNat * 6 + 4, none⟩ = some (.int .i64 ((rd_T45 y358 x5_1).f4)) := hcc10 4 _ rfl; have hx10_5 : w21.cell? ⟨go5, (x5_1 : Int).toNat * 6 + 5, none⟩ = some (.int .i64 ((rd_T45 y358 x5_1).f5)) := hcc10 5 _ rfl; have hf10_0 : w21.frozen? ⟨go5, (x5_1 : Int).toNat * 6, none⟩ = false := hfr10 0; have hf10_1 : w21.frozen? ⟨go5, (x5_1 : Int).toNat * 6 + 1, none⟩ = false := hfr10 1; have hf10_2 : w21.frozen? ⟨go5, (x5_1 : Int).toNat * 6 + 2, none⟩ = false := hfr10 2; have hf10_3 : w21.frozen? ⟨go5, (x5_1 : Int).toNat * 6 + 3, none⟩ = false := hfr10 3; have hf10_4 : w21.frozen? ⟨go5, (x5_1 : Int).toNat * 6 + 4, none⟩ = false := hfr10 4; have hf10_5 : w21.frozen? ⟨go5, (x5_1 : Int).toNat * 6 + 5, none⟩ = false := hfr10 5; clear hcl10 hcc10 hfr10 hM10; replace p10 := eq_true p10; replace q10 := eq_true q10; have HX22 := ra (show Kd.R k45 45 w21 w0.heap.size (fun k_ => (P0_ k_ ∨ w.heap.size ≤ k_)) (.slice (some ⟨go5, 0, none⟩) x0_1.length co11) y358 from (rq HO_0)); obtain ⟨ce22, hcl22, hM22, hcc22, hfr22⟩ := Kd.R_elem HX22.out z45 (x5_1 : Int) (od) (by have h_ : (x5_1 : Int) < ((x0_1.length : Int) : Int) := od; first | exact h_ | (have e_ := (Kd.R_reads' HO_0.out).1; omega) | simpa using h_); obtain rfl := k45_openM hM22; have HP22 := Kd.R_seg HX22.out (x5_1 : Int) (od) (by have h_ : (x5_1 : Int) < ((x0_1.length : Int) : Int) := od; first | exact h_ | (have e_ := (Kd.R_reads' HO_0.out).1; omega) | simpa using h_) (seg := [.int .i64 (wrap64 ((wrap64 ((wrap64 ((wrap64 ((wrap64 (x1_1 + 1)) + 1)) + 1)) + 1)) + 1))]) (j := 5) hcl22 hcc22 (show 6 ≤ 6 from by decide) (x' := (⟨(rd_T45 y358 x5_1).f0, (rd_T45 y358 x5_1).f1, (rd_T45 y358 x5_1).f2, (rd_T45 y358 x5_1).f3, (rd_T45 y358 x5_1).f4, wrap64 ((wrap64 ((wrap64 ((wrap64 ((wrap64 (x1_1 + 1)) + 1)) + 1)) + 1)) + 1)⟩ : S45)) (k45_mkM _ _ _ (⟨(rd_T45 y358 x5_1).f0, (rd_T45 y358 x5_1).f1, (rd_T45 y358 x5_1).f2, (rd_T45 y358 x5_1).f3, (rd_T45 y358 x5_1).f4, wrap64 ((wrap64 ((wrap64 ((wrap64 ((wrap64 (x1_1 + 1)) + 1)) + 1)) + 1)) + 1)⟩ : S45) ) (fun _ hk => hk); have hx22_5 := hcc22 5 _ rfl; (try simp only [show (k45).sz = 6 from rfl, Nat.mul_one, Nat.add_zero] at hx22_5); have hf22_5 := hfr22 5; (try simp only [show (k45).sz = 6 from rfl, Nat.mul_one, Nat.add_zero] at hf22_5); clear hcl22 hcc22 hfr22 hM22) | ((with_reducible refine gate_store (t := 3) (p := 51) rfl ?_); refine store_event (t := 3) (p := 51) (v := ?vo_w23) (w1 := (w21.setCell ⟨go5, (x5_1 : Int).toNat * 6 + 5, none⟩ (.int .i64 (wrap64 ((wrap64 ((wrap64 ((wrap64 ((wrap64 (x1_1 + 1)) + 1)) + 1)) + 1)) + 1))))) ?hg ?ho ?hn ?hr ?_; (case ho => rfl); (case hg => rfl); (case hn => rfl); (case hr => first | (go_simp; done) | (go_simp; rfl)); intro w23 hw; have hg : w21.grownBy w23 (some go5) := (by rw [hw]; exact HP22.2); have hp_ : Kd.R k45 45 w23 w0.heap.size (fun k_ => (P0_ k_ ∨ w.heap.size ≤ k_)) (.slice (some ⟨go5, 0, none⟩) x0_1.length co11) y359 := (by rw [hw, Ny359.out]; exact HP22.1); clear HP22; have _ := ra (hp_); have _ := ra ((by rw [hw]; exact below_set (HB.out) GB5.out : Below w0.heap.size w0 w23)); have _ := ra (Kept.of_grown (S := (fun k_ => P0_ k_)) hg (by repeat (first | (with_reducible first | exact HK.out | apply Kept.alloc | apply Kept.drewN | apply Kept.drew) | exact HK.out)) (fun k_ e_ => (HO_0.out.1 k_ e_))); clear HO_0 HB HK; rename_i HO_0 HB HK; clear hg hw hp_))
     go_roundg k1
     case measure => have := HK1.out; omega
     case rel => exact ⟨(y359), (wrap64 ((wrap64 ((wrap64 ((wrap64 ((wrap64 ((wrap64 (x1_1 + 1)) + 1)) + 1)) + 1)) + 1)) + 1)), (wrap64 (x5_1 + 1)), rs, rs, H', ⟨by have := HK1.out; omega⟩, ⟨rq HO_0⟩, ⟨by repeat (first | (with_reducible first | exact HK.out | apply Kept.alloc | apply Kept.drewN | apply Kept.drew) | exact HK.out)⟩, ⟨bq⟩⟩
    ·rw [if_neg c4] at H
     exact absurd H (by simp)
   ·rw [if_neg c3] at H
    have c3b0 : decide (x5_1 < (x0_1.length : Int)) = false := decide_eq_false c3
    clear c3
    simp only [Option.some.injEq, Prod.mk.injEq] at H
    obtain ⟨rfl, rfl⟩ := H
    obtain ⟨Ao24, co24, eo24⟩ := Kd.R_slice HO_0.out
    subst eo24
    go_wp2
    go_ret
    exact ⟨re, rq HO_0, bq, by repeat (first | (with_reducible first | exact HK.out | apply Kept.alloc | apply Kept.drewN | apply Kept.drew) | exact HK.out)⟩
end Go.Proofs.Ytgklmafdbgnohaa.PA
end
