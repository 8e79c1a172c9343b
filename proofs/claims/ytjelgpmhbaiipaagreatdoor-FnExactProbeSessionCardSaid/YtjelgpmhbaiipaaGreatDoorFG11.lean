/- Contracts (began as prints of the kit's tool; shortened). No condition beside what the Lean functions say. -/
import Derived.Test.YtjelgpmhbaiipaaGreatDoorFPAd9
import Derived.Test.YtjelgpmhbaiipaaGreatDoorFZCx1
import Derived.Test.YtjelgpmhbaiipaaGreatDoorFZCv2
import Derived.Test.YtjelgpmhbaiipaaGreatDoorFZCm7
import Derived.Test.YtjelgpmhbaiipaaGreatDoorFZCy10
section
namespace Go.Proofs.YtjelgpmhbaiipaaGreatDoor.PA
open Go.RowKit Go.Proofs.YtjelgpmhbaiipaaGreatDoorW.PrintWords Go.Proofs.YtjelgpmhbaiipaaGreatDoorW.PrintLast Go.Proofs.YtjelgpmhbaiipaaGreatDoorW.PrintMore Go.Proofs.YtjelgpmhbaiipaaGreatDoor.Z
attribute [local go_sem] max2_int min2_int max_two min_two max_three min_three max_four min_four
set_option linter.unusedVariables false
set_option maxHeartbeats 8000000
set_option maxRecDepth 100000
set_option linter.unusedSimpArgs false
theorem spec_l1In.calls (a0 a1 a2 : Int) (r : Bool) (w : World) (h : spec_l1In.f a0 a1 a2 = some r) :
  Calls Tryz.prog 66 #[.int .i64 a0, .int .i64 a1, .int .i64 a2] w fun e w' => e = .returned (.bool r) ∧ Drawn0 w w' := by
 have H := h; unfold spec_l1In.f at H
 clear h
 rcases td H with ⟨Z0, H⟩ | ⟨Z0, H⟩
 rotate_left
 rotate_left
 all_goals
  obtain rfl := Option.some.inj H
  go_enter Tryz.func66, Tryz.ntmps66
  go_wp2
  go_ret
  exact ⟨rs, d0⟩
theorem spec_ProbeBoxOk.calls (a0_0 a0_1 a0_2 a0_3 a0_4 a0_5 : Int) (r : Bool) (w : World) (h : spec_ProbeBoxOk.f a0_0 a0_1 a0_2 a0_3 a0_4 a0_5 = some r) :
  Calls Tryz.prog 45 #[.agg #[.int .i64 a0_0, .int .i64 a0_1, .int .i64 a0_2, .int .i64 a0_3, .int .i64 a0_4, .int .i64 a0_5]] w fun e w' => e = .returned (.bool r) ∧ Below w.heap.size w w' := by
 have Z0 := Tryz.underlying46
 have HB := ra (Below.refl w.heap.size w)
 have H := h; unfold spec_ProbeBoxOk.f at H
 clear h
 obtain ⟨Z1, Z2, H⟩ := bo H
 rcases ud H with ⟨rfl, Z3⟩ | ⟨rfl, Z3⟩ <;> have H := Z3
 obtain ⟨Z4, Z5, H⟩ := bo H
 rcases ud H with ⟨rfl, Z6⟩ | ⟨rfl, Z6⟩ <;> have H := Z6
 obtain ⟨Z7, Z8, H⟩ := bo H
 rcases ud H with ⟨rfl, Z9⟩ | ⟨rfl, Z9⟩ <;> have H := Z9
 rcases td H with ⟨Z10, H⟩ | ⟨Z10, H⟩
 obtain ⟨Z11, Z12, H⟩ := bo H
 rcases ud H with ⟨rfl, Z13⟩ | ⟨rfl, Z13⟩ <;> have H := Z13
 rotate_left
 rotate_left
 rotate_left
 rotate_left
 ·obtain rfl := Option.some.inj H
  go_enter Tryz.func45, Tryz.ntmps45
  go_wp2_with (first | ((with_reducible refine gd 1 rfl ?_); refine bd 1 #[.int .i64 a0_0, .int .i64 a0_1, .int .i64 a0_2, .int .i64 a0_3, .int .i64 a0_4, .int .i64 a0_5] 46 ?_; intro Z7 Z8 HB Z9 Z10; obtain ⟨Z11, Z12, Z13, Z14, Z15, Z16, Z17, Z18, Z19, Z20, Z21, Z22⟩ := zc6 Z9) | ((with_reducible refine gc 66 rfl ?_); refine gy (some 5) Tryz.func66 (spec_l1In.calls _ _ _ _ _ Z2.out) ?_; rintro w' ⟨nd, rfl⟩) | (go_at_call 66; (with_reducible refine (spec_l1In.calls _ _ _ _ _ Z5.out).mono ?_); rintro e w' ⟨rfl, ⟨nd, rfl⟩⟩))
  go_ret
  exact ⟨re, bq⟩
 ·obtain rfl := Option.some.inj H
  go_enter Tryz.func45, Tryz.ntmps45
  go_wp2_with (first | ((with_reducible refine gd 1 rfl ?_); refine bd 1 #[.int .i64 a0_0, .int .i64 a0_1, .int .i64 a0_2, .int .i64 a0_3, .int .i64 a0_4, .int .i64 a0_5] 46 ?_; intro Z4 Z5 HB Z6 Z7; obtain ⟨Z8, Z9, Z10, Z11, Z12, Z13, Z14, Z15, Z16, Z17, Z18, Z19⟩ := zc6 Z6) | ((with_reducible refine gc 66 rfl ?_); refine gy (some 5) Tryz.func66 (spec_l1In.calls _ _ _ _ _ Z2.out) ?_; rintro w' ⟨nd, rfl⟩))
  go_ret
  exact ⟨re, bq⟩
 all_goals first
  | obtain rfl := Option.some.inj H
    go_enter Tryz.func45, Tryz.ntmps45
    go_wp2_with (first | ((with_reducible refine gd 1 rfl ?_); refine bd 1 #[.int .i64 a0_0, .int .i64 a0_1, .int .i64 a0_2, .int .i64 a0_3, .int .i64 a0_4, .int .i64 a0_5] 46 ?_; intro Z14 Z15 HB Z16 Z17; obtain ⟨Z18, Z19, Z20, Z21, Z22, Z23, Z24, Z25, Z26, Z27, Z28, Z29⟩ := zc6 Z16) | ((with_reducible refine gc 66 rfl ?_); refine gy (some 5) Tryz.func66 (spec_l1In.calls _ _ _ _ _ Z2.out) ?_; rintro w' ⟨nd, rfl⟩) | (go_at_call 66; (with_reducible refine (spec_l1In.calls _ _ _ _ _ Z5.out).mono ?_); rintro e w' ⟨rfl, ⟨nd, rfl⟩⟩) | (go_at_call 66; (with_reducible refine (spec_l1In.calls _ _ _ _ _ Z8.out).mono ?_); rintro e w' ⟨rfl, ⟨nd, rfl⟩⟩) | (go_at_call 66; (with_reducible refine (spec_l1In.calls _ _ _ _ _ Z12.out).mono ?_); rintro e w' ⟨rfl, ⟨nd, rfl⟩⟩))
    go_ret
    exact ⟨re, bq⟩
  | obtain rfl := Option.some.inj H
    go_enter Tryz.func45, Tryz.ntmps45
    go_wp2_with (first | ((with_reducible refine gd 1 rfl ?_); refine bd 1 #[.int .i64 a0_0, .int .i64 a0_1, .int .i64 a0_2, .int .i64 a0_3, .int .i64 a0_4, .int .i64 a0_5] 46 ?_; intro Z11 Z12 HB Z13 Z14; obtain ⟨Z15, Z16, Z17, Z18, Z19, Z20, Z21, Z22, Z23, Z24, Z25, Z26⟩ := zc6 Z13) | ((with_reducible refine gc 66 rfl ?_); refine gy (some 5) Tryz.func66 (spec_l1In.calls _ _ _ _ _ Z2.out) ?_; rintro w' ⟨nd, rfl⟩) | (go_at_call 66; (with_reducible refine (spec_l1In.calls _ _ _ _ _ Z5.out).mono ?_); rintro e w' ⟨rfl, ⟨nd, rfl⟩⟩) | (go_at_call 66; (with_reducible refine (spec_l1In.calls _ _ _ _ _ Z8.out).mono ?_); rintro e w' ⟨rfl, ⟨nd, rfl⟩⟩))
    go_ret
    exact ⟨re, bq⟩
theorem spec_l2NameOk.calls (k : Nat) (a0 : ByteArray) (r : Bool) (w : World) (h : spec_l2NameOk.f k a0 = some r) :
  Calls Tryz.prog 71 #[.string a0] w fun e w' => e = .returned (.bool r) ∧ Drawn0 w w' := by
 have H := h; unfold spec_l2NameOk.f at H
 clear h
 obtain ⟨Z0, Z1, H⟩ := bo H
 rcases ud H with ⟨rfl, Z2⟩ | ⟨rfl, Z2⟩ <;> have H := Z2
 ·have H' := ra H; clear H
  go_enter Tryz.func71, Tryz.ntmps71
  go_wp2_with (first | ((with_reducible refine gc 66 rfl ?_); refine gy (some 7) Tryz.func66 (spec_l1In.calls _ _ _ _ _ Z1.out) ?_; rintro w' ⟨nd, rfl⟩))
  go_loopg [3] k (fun kq v3 w' => ∃ (x3_1 : Int), v3 = .int .i64 x3_1 ∧ Aside0 (spec_l2NameOk.l0 kq a0 x3_1 = some r) ∧ Aside0 (kq ≤ k) ∧ Drawn0 w w')
  case atStart => exact ⟨_, rs, H', ⟨Nat.le_refl _⟩, d0⟩
  case round =>
   clear H'
   obtain ⟨Z3, rfl, HA, Z4, ⟨Z5, rfl⟩⟩ := hrel
   cases gk with
   | zero => exact absurd HA.out (by simp [spec_l2NameOk.l0])
   | succ Z6 =>
    have H := HA.out
    clear HA
    simp only [spec_l2NameOk.l0] at H
    rcases td H with ⟨Z7, H⟩ | ⟨Z7, H⟩
    obtain ⟨Z8, H⟩ := tn H
    rcases td H with ⟨Z9, H⟩ | ⟨Z9, H⟩
    rcases td H with ⟨Z10, H⟩ | ⟨Z10, H⟩
    rotate_left
    rcases td H with ⟨Z11, H⟩ | ⟨Z11, H⟩
    rcases td H with ⟨Z12, H⟩ | ⟨Z12, H⟩
    rotate_left
    rcases ed H with ⟨-, Z13, Z14, H⟩ | ⟨-, Z13, Z14, H⟩
    rotate_left
    rotate_left
    rcases ed H with ⟨-, Z12, Z13, H⟩ | ⟨-, Z12, Z13, H⟩
    rotate_left
    rotate_left
    rcases td H with ⟨Z10, H⟩ | ⟨Z10, H⟩
    rcases td H with ⟨Z11, H⟩ | ⟨Z11, H⟩
    rotate_left
    rcases ed H with ⟨-, Z12, Z13, H⟩ | ⟨-, Z12, Z13, H⟩
    rotate_left
    rotate_left
    rcases ed H with ⟨-, Z11, Z12, H⟩ | ⟨-, Z11, Z12, H⟩
    rotate_left
    rotate_left
    ·obtain rfl := Option.some.inj H
     go_wp2
     go_ret
     exact ⟨rs, d0⟩
    all_goals first
     | have H' := ra H; clear H
       have Z11 : 0 ≤ (Z3 : Int) := od
       have Z12 : Z3 < (a0.size : Int) := od
       have Z13 := bt_at a0 Z3
       replace Z11 := eq_true Z11
       replace Z12 := eq_true Z12
       go_wp2
       go_roundg Z6
       case measure => have := Z4.out; omega
       case rel => exact ⟨_, rs, H', ⟨by have := Z4.out; omega⟩, d0⟩
     | obtain rfl := Option.some.inj H
       have Z15 : 0 ≤ (Z3 : Int) := od
       have Z16 : Z3 < (a0.size : Int) := od
       have Z17 := bt_at a0 Z3
       replace Z15 := eq_true Z15
       replace Z16 := eq_true Z16
       go_wp2
       go_ret
       exact ⟨rs, d0⟩
 ·obtain rfl := Option.some.inj H
  go_enter Tryz.func71, Tryz.ntmps71
  go_wp2_with (first | ((with_reducible refine gc 66 rfl ?_); refine gy (some 7) Tryz.func66 (spec_l1In.calls _ _ _ _ _ Z1.out) ?_; rintro w' ⟨nd, rfl⟩))
  go_ret
  exact ⟨rs, d0⟩
theorem spec_ProbeTubeOk.calls (k : Nat) (a0_0 : ByteArray) (A0_1 : Option Addr) (c0_1 : Nat) (l0_1 : List (S46)) (r : Bool) (w : World) (hr0_1 : Kd.C k46 w A0_1 l0_1.length l0_1) (hc0_1 : l0_1.length ≤ c0_1) (h : spec_ProbeTubeOk.f k a0_0 l0_1 = some r) :
  Calls Tryz.prog 50 #[.agg #[.string a0_0, .slice A0_1 l0_1.length c0_1]] w fun e w' => e = .returned (.bool r) ∧ Below w.heap.size w w' := by
 have Z0 := Tryz.underlying33
 have Z1 := Tryz.underlying46
 have Z2 := ra hr0_1
 have Z3 := ra hc0_1
 clear hr0_1 hc0_1
 have HB := ra (Below.refl w.heap.size w)
 have H := h; unfold spec_ProbeTubeOk.f at H
 clear h
 have Z4 := ra H; clear H
 go_enter Tryz.func50, Tryz.ntmps50
 go_upto_region 1 with (first | ((with_reducible refine gd 1 rfl ?_); (try (refine gate_guard (by rfl) ?_; dsimp only)); refine bd 1 #[.string a0_0, .slice A0_1 l0_1.length c0_1] 33 ?_; intro Z5 Z6 HB Z7 Z8))
 (try simp only [Act.put, List.setIfInBounds_toArray, List.set_cons_zero, List.set_cons_succ])
 go_cut [13] (fun v13 wc => ∃ (kq : Nat) (x13_1 : Bool), v13 = .bool x13_1 ∧ Aside0 (spec_ProbeTubeOk.j0 kq x13_1 a0_0 l0_1 = some r) ∧ Aside0 (kq ≤ k) ∧ Aside0 (wc.heap[Z5]? = some (.cells #[.string a0_0, (.slice A0_1 l0_1.length c0_1)] 33 (0, 0))) ∧ Aside0 (Below w.heap.size w wc))
 case first =>
  have H := Z4.out
  clear Z4
  obtain ⟨Z9, Z10, H⟩ := bo H
  rcases ud H with ⟨rfl, Z11⟩ | ⟨rfl, Z11⟩ <;> have H := Z11
  rotate_left
  rotate_left
  all_goals
   have H' := ra H; clear H
   obtain ⟨Z12, Z13, Z14, Z15⟩ := zc2 Z7
   go_wp2_with (first | ((with_reducible refine gc 71 rfl ?_); refine gy (some 6) Tryz.func71 (spec_l2NameOk.calls _ _ _ _ Z10.out) ?_; rintro w' ⟨nd, rfl⟩))
   go_meet
   case rel => exact ⟨_, _, rs, H', ⟨by first | omega | exact Nat.le_refl _⟩, ⟨bk Z7⟩, ⟨bq⟩⟩
 case rest =>
  clear Z4
  obtain ⟨kq, Z9, rfl, HA, Z10, Z7, HB⟩ := hcut
  cases kq with
  | zero => exact absurd HA.out (by simp [spec_ProbeTubeOk.j0])
  | succ Z11 =>
   have H := HA.out
   clear HA
   simp only [spec_ProbeTubeOk.j0] at H
   rcases ud H with ⟨rfl, Z12⟩ | ⟨rfl, Z12⟩ <;> have H := Z12
   ·obtain rfl := Option.some.inj H
    go_wp2
    go_ret
    exact ⟨re, bq⟩
   ·have H' := ra H; clear H
    go_wp2
    go_loopg [3] Z11 (fun kq v3 w' => ∃ (x3_2 : Int), v3 = .int .i64 x3_2 ∧ Aside0 (spec_ProbeTubeOk.l0 kq x3_2 a0_0 l0_1 = some r) ∧ Aside0 (kq ≤ Z11) ∧ Aside0 (w'.heap[Z5]? = some (.cells #[.string a0_0, (.slice A0_1 l0_1.length c0_1)] 33 (0, 0))) ∧ Aside0 (Below w.heap.size w w'))
    case atStart => exact ⟨_, rs, H', ⟨Nat.le_refl _⟩, ⟨bk Z7⟩, ⟨bq⟩⟩
    case round =>
     clear H'
     obtain ⟨Z13, rfl, HA, Z14, Z7, HB⟩ := hrel
     cases gk with
     | zero => exact absurd HA.out (by simp [spec_ProbeTubeOk.l0])
     | succ Z15 =>
      have H := HA.out
      clear HA
      simp only [spec_ProbeTubeOk.l0] at H
      rcases td H with ⟨Z16, H⟩ | ⟨Z16, H⟩
      ·obtain ⟨Z17, H⟩ := tn H
       obtain ⟨Z18, Z19, H⟩ := bo H
       rcases ud H with ⟨rfl, Z20⟩ | ⟨rfl, Z20⟩ <;> have H := Z20
       ·have H' := ra H; clear H
        obtain ⟨Z21, Z22, Z23, Z24⟩ := zc2 Z7
        have Z25 : 0 ≤ (Z13 : Int) := od
        have Z26 : Z13 < (l0_1.length : Int) := od
        obtain ⟨Z27, Z28, Z29, Z30, Z31, Z32, Z33, Z34⟩ := at_T46 Z2.out Z13 Z25 Z26
        cases Z28
        replace Z29 := hc HB Z29
        replace Z30 := hc HB Z30
        replace Z31 := hc HB Z31
        replace Z32 := hc HB Z32
        replace Z33 := hc HB Z33
        replace Z34 := hc HB Z34
        replace Z25 := eq_true Z25
        replace Z26 := eq_true Z26
        go_wp2_with (first | ((with_reducible refine gc 45 rfl ?_); refine gy (some 26) Tryz.func45 (spec_ProbeBoxOk.calls _ _ _ _ _ _ _ _ Z19.out) ?_; rintro Z35 hb; replace Z7 := bb (bk Z7) hb; replace HB := bs hb; clear hb))
        go_roundg Z15
        case measure => have := Z10.out; have := Z14.out; omega
        case rel => exact ⟨_, rs, H', ⟨by have := Z10.out; have := Z14.out; omega⟩, ⟨bk Z7⟩, ⟨bq⟩⟩
       ·obtain rfl := Option.some.inj H
        obtain ⟨Z21, Z22, Z23, Z24⟩ := zc2 Z7
        have Z25 : 0 ≤ (Z13 : Int) := od
        have Z26 : Z13 < (l0_1.length : Int) := od
        obtain ⟨Z27, Z28, Z29, Z30, Z31, Z32, Z33, Z34⟩ := at_T46 Z2.out Z13 Z25 Z26
        cases Z28
        replace Z29 := hc HB Z29
        replace Z30 := hc HB Z30
        replace Z31 := hc HB Z31
        replace Z32 := hc HB Z32
        replace Z33 := hc HB Z33
        replace Z34 := hc HB Z34
        replace Z25 := eq_true Z25
        replace Z26 := eq_true Z26
        go_wp2_with (first | ((with_reducible refine gc 45 rfl ?_); refine gy (some 26) Tryz.func45 (spec_ProbeBoxOk.calls _ _ _ _ _ _ _ _ Z19.out) ?_; rintro Z35 hb; replace Z7 := bb (bk Z7) hb; replace HB := bs hb; clear hb))
        go_ret
        exact ⟨re, bq⟩
      ·obtain rfl := Option.some.inj H
       obtain ⟨Z17, Z18, Z19, Z20⟩ := zc2 Z7
       go_wp2
       go_ret
       exact ⟨re, bq⟩
theorem impl_in.calls (a0 a1 a2 : Int) (r : Bool) (w : World) (h : impl_in.f a0 a1 a2 = some r) :
  Calls Tryz.prog 57 #[.int .i64 a0, .int .i64 a1, .int .i64 a2] w fun e w' => e = .returned (.bool r) ∧ Drawn0 w w' := by
 have H := h; unfold impl_in.f at H
 clear h
 rcases td H with ⟨Z0, H⟩ | ⟨Z0, H⟩
 rotate_left
 rotate_left
 all_goals
  obtain rfl := Option.some.inj H
  go_enter Tryz.func57, Tryz.ntmps57
  go_wp2
  go_ret
  exact ⟨rs, d0⟩
theorem impl_ProbeBoxOk.calls (a0_0 a0_1 a0_2 a0_3 a0_4 a0_5 : Int) (r : Bool) (w : World) (h : impl_ProbeBoxOk.f a0_0 a0_1 a0_2 a0_3 a0_4 a0_5 = some r) :
  Calls Tryz.prog 29 #[.agg #[.int .i64 a0_0, .int .i64 a0_1, .int .i64 a0_2, .int .i64 a0_3, .int .i64 a0_4, .int .i64 a0_5]] w fun e w' => e = .returned (.bool r) ∧ Below w.heap.size w w' := by
 have Z0 := Tryz.underlying46
 have HB := ra (Below.refl w.heap.size w)
 have H := h; unfold impl_ProbeBoxOk.f at H
 clear h
 obtain ⟨Z1, Z2, H⟩ := bo H
 rcases ud H with ⟨rfl, Z3⟩ | ⟨rfl, Z3⟩ <;> have H := Z3
 obtain ⟨Z4, Z5, H⟩ := bo H
 rcases ud H with ⟨rfl, Z6⟩ | ⟨rfl, Z6⟩ <;> have H := Z6
 rcases td H with ⟨Z7, H⟩ | ⟨Z7, H⟩
 rcases td H with ⟨Z8, H⟩ | ⟨Z8, H⟩
 rcases td H with ⟨Z9, H⟩ | ⟨Z9, H⟩
 rcases td H with ⟨Z10, H⟩ | ⟨Z10, H⟩
 rcases td H with ⟨Z11, H⟩ | ⟨Z11, H⟩
 rotate_left
 rotate_left
 rotate_left
 rotate_left
 rotate_left
 rotate_left
 rotate_left
 ·obtain rfl := Option.some.inj H
  go_enter Tryz.func29, Tryz.ntmps29
  go_wp2_with (first | ((with_reducible refine gd 1 rfl ?_); refine bd 1 #[.int .i64 a0_0, .int .i64 a0_1, .int .i64 a0_2, .int .i64 a0_3, .int .i64 a0_4, .int .i64 a0_5] 46 ?_; intro Z4 Z5 HB Z6 Z7; obtain ⟨Z8, Z9, Z10, Z11, Z12, Z13, Z14, Z15, Z16, Z17, Z18, Z19⟩ := zc6 Z6) | ((with_reducible refine gc 57 rfl ?_); refine gy (some 5) Tryz.func57 (impl_in.calls _ _ _ _ _ Z2.out) ?_; rintro w' ⟨nd, rfl⟩))
  go_ret
  exact ⟨re, bq⟩
 all_goals
  obtain rfl := Option.some.inj H
  go_enter Tryz.func29, Tryz.ntmps29
  go_wp2_with (first | ((with_reducible refine gd 1 rfl ?_); refine bd 1 #[.int .i64 a0_0, .int .i64 a0_1, .int .i64 a0_2, .int .i64 a0_3, .int .i64 a0_4, .int .i64 a0_5] 46 ?_; intro Z12 Z13 HB Z14 Z15; obtain ⟨Z16, Z17, Z18, Z19, Z20, Z21, Z22, Z23, Z24, Z25, Z26, Z27⟩ := zc6 Z14) | ((with_reducible refine gc 57 rfl ?_); refine gy (some 5) Tryz.func57 (impl_in.calls _ _ _ _ _ Z2.out) ?_; rintro w' ⟨nd, rfl⟩) | (go_at_call 57; (with_reducible refine (impl_in.calls _ _ _ _ _ Z5.out).mono ?_); rintro e w' ⟨rfl, ⟨nd, rfl⟩⟩))
  go_ret
  exact ⟨re, bq⟩
theorem impl_ProbeTubeOk.calls (k : Nat) (a0_0 : ByteArray) (A0_1 : Option Addr) (c0_1 : Nat) (l0_1 : List (S46)) (r : Bool) (w : World) (hr0_1 : Kd.C k46 w A0_1 l0_1.length l0_1) (hc0_1 : l0_1.length ≤ c0_1) (h : impl_ProbeTubeOk.f k a0_0 l0_1 = some r) :
  Calls Tryz.prog 61 #[.agg #[.string a0_0, .slice A0_1 l0_1.length c0_1]] w fun e w' => e = .returned (.bool r) ∧ Below w.heap.size w w' := by
 have Z0 := Tryz.underlying33
 have Z1 := Tryz.underlying46
 have Z2 := ra hr0_1
 have Z3 := ra hc0_1
 clear hr0_1 hc0_1
 have HB := ra (Below.refl w.heap.size w)
 have H := h; unfold impl_ProbeTubeOk.f at H
 clear h
 have Z4 := ra H; clear H
 go_enter Tryz.func61, Tryz.ntmps61
 go_upto_region 1 with (first | ((with_reducible refine gd 1 rfl ?_); (try (refine gate_guard (by rfl) ?_; dsimp only)); refine bd 1 #[.string a0_0, .slice A0_1 l0_1.length c0_1] 33 ?_; intro Z5 Z6 HB Z7 Z8))
 (try simp only [Act.put, List.setIfInBounds_toArray, List.set_cons_zero, List.set_cons_succ])
 go_cut [17] (fun v17 wc => ∃ (kq : Nat) (x17_1 : Bool), v17 = .bool x17_1 ∧ Aside0 (impl_ProbeTubeOk.j0 kq x17_1 a0_0 l0_1 = some r) ∧ Aside0 (kq ≤ k) ∧ Aside0 (wc.heap[Z5]? = some (.cells #[.string a0_0, (.slice A0_1 l0_1.length c0_1)] 33 (0, 0))) ∧ Aside0 (Below w.heap.size w wc))
 case first =>
  have H := Z4.out
  clear Z4
  obtain ⟨Z9, Z10, H⟩ := bo H
  rcases ud H with ⟨rfl, Z11⟩ | ⟨rfl, Z11⟩ <;> have H := Z11
  rotate_left
  rotate_left
  all_goals
   have H' := ra H; clear H
   obtain ⟨Z12, Z13, Z14, Z15⟩ := zc2 Z7
   go_wp2_with (first | ((with_reducible refine gc 57 rfl ?_); refine gy (some 10) Tryz.func57 (impl_in.calls _ _ _ _ _ Z10.out) ?_; rintro w' ⟨nd, rfl⟩))
   go_meet
   case rel => exact ⟨_, _, rs, H', ⟨by first | omega | exact Nat.le_refl _⟩, ⟨bk Z7⟩, ⟨bq⟩⟩
 case rest =>
  clear Z4
  obtain ⟨kq, Z9, rfl, HA, Z10, Z7, HB⟩ := hcut
  cases kq with
  | zero => exact absurd HA.out (by simp [impl_ProbeTubeOk.j0])
  | succ Z11 =>
   have H := HA.out
   clear HA
   simp only [impl_ProbeTubeOk.j0] at H
   rcases ud H with ⟨rfl, Z12⟩ | ⟨rfl, Z12⟩ <;> have H := Z12
   ·obtain rfl := Option.some.inj H
    go_wp2
    go_ret
    exact ⟨re, bq⟩
   ·have H' := ra H; clear H
    go_wp2
    go_loopg [3] Z11 (fun kq v3 w' => ∃ (x3_2 : Int), v3 = .int .i64 x3_2 ∧ Aside0 (impl_ProbeTubeOk.l0 kq x3_2 a0_0 l0_1 = some r) ∧ Aside0 (kq ≤ Z11) ∧ Aside0 (w'.heap[Z5]? = some (.cells #[.string a0_0, (.slice A0_1 l0_1.length c0_1)] 33 (0, 0))) ∧ Aside0 (Below w.heap.size w w'))
    case atStart => exact ⟨_, rs, H', ⟨Nat.le_refl _⟩, ⟨bk Z7⟩, ⟨bq⟩⟩
    case round =>
     clear H'
     obtain ⟨Z13, rfl, HA, Z14, Z7, HB⟩ := hrel
     cases gk with
     | zero => exact absurd HA.out (by simp [impl_ProbeTubeOk.l0])
     | succ Z15 =>
      have H := HA.out
      clear HA
      simp only [impl_ProbeTubeOk.l0] at H
      rcases td H with ⟨Z16, H⟩ | ⟨Z16, H⟩
      obtain ⟨Z17, H⟩ := tn H
      rcases td H with ⟨Z18, H⟩ | ⟨Z18, H⟩
      rcases td H with ⟨Z19, H⟩ | ⟨Z19, H⟩
      rotate_left
      rcases td H with ⟨Z20, H⟩ | ⟨Z20, H⟩
      rcases td H with ⟨Z21, H⟩ | ⟨Z21, H⟩
      rotate_left
      rcases ed H with ⟨-, Z22, Z23, H⟩ | ⟨-, Z22, Z23, H⟩
      rotate_left
      rotate_left
      rcases ed H with ⟨-, Z21, Z22, H⟩ | ⟨-, Z21, Z22, H⟩
      rotate_left
      rotate_left
      rcases td H with ⟨Z19, H⟩ | ⟨Z19, H⟩
      rcases td H with ⟨Z20, H⟩ | ⟨Z20, H⟩
      rotate_left
      rcases ed H with ⟨-, Z21, Z22, H⟩ | ⟨-, Z21, Z22, H⟩
      rotate_left
      rotate_left
      rcases ed H with ⟨-, Z20, Z21, H⟩ | ⟨-, Z20, Z21, H⟩
      rotate_left
      rotate_left
      ·have H' := ra H; clear H
       obtain ⟨Z17, Z18, Z19, Z20⟩ := zc2 Z7
       go_wp2
       go_loopg [51] Z15 (fun kq v51 w' => ∃ (x51_3 : Int), v51 = .int .i64 x51_3 ∧ Aside0 (impl_ProbeTubeOk.l1 kq l0_1 (l0_1.length : Int) x51_3 = some r) ∧ Aside0 (kq ≤ Z15) ∧ Aside0 (w'.heap[Z5]? = some (.cells #[.string a0_0, (.slice A0_1 l0_1.length c0_1)] 33 (0, 0))) ∧ Aside0 (Below w.heap.size w w'))
       case atStart => exact ⟨_, rs, H', ⟨Nat.le_refl _⟩, ⟨bk Z7⟩, ⟨bq⟩⟩
       case round =>
        clear H'
        try clear Z16
        try clear Z17
        try clear Z18
        try clear Z19
        try clear Z20
        obtain ⟨Z21, rfl, HA, Z22, Z7, HB⟩ := hrel
        cases gk with
        | zero => exact absurd HA.out (by simp [impl_ProbeTubeOk.l1])
        | succ Z23 =>
         have H := HA.out
         clear HA
         simp only [impl_ProbeTubeOk.l1] at H
         rcases td H with ⟨Z24, H⟩ | ⟨Z24, H⟩
         ·obtain ⟨Z25, H⟩ := tn H
          obtain ⟨Z26, H⟩ := tn H
          obtain ⟨Z27, Z28, H⟩ := bo H
          rcases ud H with ⟨rfl, Z29⟩ | ⟨rfl, Z29⟩ <;> have H := Z29
          ·have H' := ra H; clear H
           have Z30 : 0 ≤ (Z21 : Int) := od
           have Z31 : Z21 < (l0_1.length : Int) := od
           obtain ⟨Z32, Z33, Z34, Z35, Z36, Z37, Z38, Z39⟩ := at_T46 Z2.out Z21 Z30 Z31
           cases Z33
           replace Z34 := hc HB Z34
           replace Z35 := hc HB Z35
           replace Z36 := hc HB Z36
           replace Z37 := hc HB Z37
           replace Z38 := hc HB Z38
           replace Z39 := hc HB Z39
           replace Z30 := eq_true Z30
           replace Z31 := eq_true Z31
           go_wp2_with (first | ((with_reducible refine gd 6 rfl ?_); (try (refine gate_guard (by rfl) ?_; dsimp only)); refine bf 6 #[.int .i64 0, .int .i64 0, .int .i64 0, .int .i64 0, .int .i64 0, .int .i64 0] 46 ?_; intro Z40 Z41 hg hb HB Z42 Z43; have Z44 := bn hg (bk Z7); have Z45 := bm hg (bk Z7); replace Z7 := bb (bk Z7) hb; have Z46 := Z45.out; have Z47 := Z44.out; obtain ⟨Z48, Z49, Z50, Z51, Z52, Z53, Z54, Z55, Z56, Z57, Z58, Z59⟩ := zc6 Z42; clear hg hb) | ((with_reducible refine gc 29 rfl ?_); refine gy (some 56) Tryz.func29 (impl_ProbeBoxOk.calls _ _ _ _ _ _ _ _ Z28.out) ?_; rintro Z60 hb; replace Z7 := bb (bk Z7) hb; replace Z42 := bb (o := .cells #[.int .i64 ((rd_T46 l0_1 Z21).f0), .int .i64 ((rd_T46 l0_1 Z21).f1), .int .i64 ((rd_T46 l0_1 Z21).f2), .int .i64 ((rd_T46 l0_1 Z21).f3), .int .i64 ((rd_T46 l0_1 Z21).f4), .int .i64 ((rd_T46 l0_1 Z21).f5)] 46 (0, 0)) (bp Z42) hb; replace HB := bs hb; clear hb))
           go_roundg Z23
           case measure => have := Z10.out; have := Z14.out; have := Z22.out; omega
           case rel => exact ⟨_, rs, H', ⟨by have := Z10.out; have := Z14.out; have := Z22.out; omega⟩, ⟨bk Z7⟩, ⟨bq⟩⟩
          ·obtain rfl := Option.some.inj H
           have Z30 : 0 ≤ (Z21 : Int) := od
           have Z31 : Z21 < (l0_1.length : Int) := od
           obtain ⟨Z32, Z33, Z34, Z35, Z36, Z37, Z38, Z39⟩ := at_T46 Z2.out Z21 Z30 Z31
           cases Z33
           replace Z34 := hc HB Z34
           replace Z35 := hc HB Z35
           replace Z36 := hc HB Z36
           replace Z37 := hc HB Z37
           replace Z38 := hc HB Z38
           replace Z39 := hc HB Z39
           replace Z30 := eq_true Z30
           replace Z31 := eq_true Z31
           go_wp2_with (first | ((with_reducible refine gd 6 rfl ?_); (try (refine gate_guard (by rfl) ?_; dsimp only)); refine bf 6 #[.int .i64 0, .int .i64 0, .int .i64 0, .int .i64 0, .int .i64 0, .int .i64 0] 46 ?_; intro Z40 Z41 hg hb HB Z42 Z43; have Z44 := bn hg (bk Z7); have Z45 := bm hg (bk Z7); replace Z7 := bb (bk Z7) hb; have Z46 := Z45.out; have Z47 := Z44.out; obtain ⟨Z48, Z49, Z50, Z51, Z52, Z53, Z54, Z55, Z56, Z57, Z58, Z59⟩ := zc6 Z42; clear hg hb) | ((with_reducible refine gc 29 rfl ?_); refine gy (some 56) Tryz.func29 (impl_ProbeBoxOk.calls _ _ _ _ _ _ _ _ Z28.out) ?_; rintro Z60 hb; replace Z7 := bb (bk Z7) hb; replace Z42 := bb (o := .cells #[.int .i64 ((rd_T46 l0_1 Z21).f0), .int .i64 ((rd_T46 l0_1 Z21).f1), .int .i64 ((rd_T46 l0_1 Z21).f2), .int .i64 ((rd_T46 l0_1 Z21).f3), .int .i64 ((rd_T46 l0_1 Z21).f4), .int .i64 ((rd_T46 l0_1 Z21).f5)] 46 (0, 0)) (bp Z42) hb; replace HB := bs hb; clear hb))
           go_ret
           exact ⟨re, bq⟩
         ·obtain rfl := Option.some.inj H
          go_wp2
          go_ret
          exact ⟨re, bq⟩
      all_goals first
       | have H' := ra H; clear H
         obtain ⟨Z20, Z21, Z22, Z23⟩ := zc2 Z7
         have Z24 : 0 ≤ (Z13 : Int) := od
         have Z25 : Z13 < (a0_0.size : Int) := od
         have Z26 := bt_at a0_0 Z13
         replace Z24 := eq_true Z24
         replace Z25 := eq_true Z25
         go_wp2
         go_roundg Z15
         case measure => have := Z10.out; have := Z14.out; omega
         case rel => exact ⟨_, rs, H', ⟨by have := Z10.out; have := Z14.out; omega⟩, ⟨bk Z7⟩, ⟨bq⟩⟩
       | obtain rfl := Option.some.inj H
         obtain ⟨Z24, Z25, Z26, Z27⟩ := zc2 Z7
         have Z28 : 0 ≤ (Z13 : Int) := od
         have Z29 : Z13 < (a0_0.size : Int) := od
         have Z30 := bt_at a0_0 Z13
         replace Z28 := eq_true Z28
         replace Z29 := eq_true Z29
         go_wp2
         go_ret
         exact ⟨re, bq⟩
def spec_ProbeSkyOk.T6 : Bool × List (List Nat × List Nat) := (true, [([], []), ([], []), ([0, 1], [0, 1]), ([2], [2]), ([3], [3]), ([4], [4]), ([5, 4], [5]), ([6], [6]), ([7, 6], [6, 7]), ([8, 6, 6], [6, 8]), ([9], [9]), ([9], [9]), ([11, 9], [9, 11]), ([10, 12, 9], [9, 10, 12]), ([13, 9], [9, 13]), ([14, 9], [9, 14]), ([9], [9]), ([9], [9]), ([16, 17, 9], [9, 16, 17]), ([18, 9], [9, 18]), ([19, 9], [9, 19]), ([15, 20, 9], [9, 15, 20]), ([9, 21, 6], [6, 9, 21]), ([6, 22], [6, 22])])
def spec_ProbeSkyOk.B6 : List Nat := [0, 0, 3, 7, 15, 31, 63, 127, 255, 511, 1023, 1023, 3071, 8191, 16383, 32767, 1023, 1023, 197631, 459775, 984063, 2097151, 4194303, 8388607]
theorem spec_ProbeSkyOk.tab6 : rtab .any (opsOf Tryz.f48 6) = spec_ProbeSkyOk.T6 := by kernel_rfl
theorem spec_ProbeSkyOk.bits6 : waitsOk spec_ProbeSkyOk.T6.2 spec_ProbeSkyOk.B6 = true := by kernel_rfl
theorem spec_ProbeSkyOk.calls (k : Nat) (A0 : Option Addr) (c0 : Nat) (l0 : List (S33)) (r : Bool) (w : World) (hr0 : Kd.C k33 w A0 l0.length l0) (hc0 : l0.length ≤ c0) (h : spec_ProbeSkyOk.f k l0 = some r) :
  Calls Tryz.prog 48 #[.slice A0 l0.length c0] w fun e w' => e = .returned (.bool r) ∧ Below w.heap.size w w' := by
 have Z0 := Tryz.underlying33
 have Z1 := ra hr0
 have Z2 := ra hc0
 clear hr0 hc0
 have HB := ra (Below.refl w.heap.size w)
 have H := h; unfold spec_ProbeSkyOk.f at H
 clear h
 rcases sd H with ⟨Z3, Z4, H⟩ | ⟨Z3, Z4, H⟩
 ·have Z5 : decide (24 < l0.length) = true := decide_eq_true (by omega)
  clear Z3
  obtain rfl := Option.some.inj H
  go_enter Tryz.func48, Tryz.ntmps48
  go_wp2
  go_ret
  exact ⟨re, bq⟩
 ·have Z5 : decide (24 < l0.length) = false := decide_eq_false (by omega)
  clear Z3
  have H' := ra H; clear H
  go_enter Tryz.func48, Tryz.ntmps48
  go_wp2
  go_loopg [3] k (fun kq v3 w' => ∃ (x3_1 : Int), v3 = .int .i64 x3_1 ∧ Aside0 (spec_ProbeSkyOk.l0 kq l0 x3_1 = some r) ∧ Aside0 (kq ≤ k) ∧ Aside0 (Below w.heap.size w w'))
  case atStart => exact ⟨_, rs, H', ⟨Nat.le_refl _⟩, ⟨bq⟩⟩
  case round =>
   clear H'
   try clear Z3
   try clear Z4
   try clear Z5
   obtain ⟨Z6, rfl, HA, Z7, HB⟩ := hrel
   cases gk with
   | zero => exact absurd HA.out (by simp [spec_ProbeSkyOk.l0])
   | succ Z8 =>
    have H := HA.out
    clear HA
    simp only [spec_ProbeSkyOk.l0] at H
    rcases td H with ⟨Z9, H⟩ | ⟨Z9, H⟩
    ·obtain ⟨Z10, H⟩ := tn H
     obtain ⟨Z11, Z12, H⟩ := bo H
     rcases ud H with ⟨rfl, Z13⟩ | ⟨rfl, Z13⟩ <;> have H := Z13
     ·rcases td H with ⟨Z14, H⟩ | ⟨Z14, H⟩
      ·obtain ⟨Z15, Z16⟩ : ∃ j_ : Int, (wrap64 (Z6 - 1)) = j_ := ⟨_, rfl⟩
       replace H : (if 0 ≤ (Z15) then (if (Z15) < (l0.length : Int) then (if ((Op.bytesLess (((rd_T33 l0 (Z15)).f0).toList) (((rd_T33 l0 Z6).f0).toList)) = true) then (spec_ProbeSkyOk.l0 Z8 l0 (wrap64 (Z6 + 1))) else (some false)) else (none)) else (none)) = some r := by first | (rw [Z16] at H; exact H) | (simp only [Z16] at H ⊢; exact H)
       (try rw [Z16] at Z12)
       have Z17 : (IntKind.i64.wrap (Z6 - 1)) = Z15 := (i64_w _).trans Z16
       obtain ⟨Z18, H⟩ := tn H
       obtain ⟨Z19, H⟩ := tn H
       by_cases Z20 : ((Op.bytesLess (((rd_T33 l0 (Z15)).f0).toList) (((rd_T33 l0 Z6).f0).toList)) = true)
       ·rw [if_pos Z20] at H
        have Z21 : (Op.bytesLess (((rd_T33 l0 (Z15)).f0).toList) (((rd_T33 l0 Z6).f0).toList)) = true := Z20
        clear Z20
        have H' := ra H; clear H
        try go_wp2
        have _ := ra (below_drew1 HB.out)
        clear HB
        rename_i HB
        have Z22 : 0 ≤ (Z6 : Int) := od
        have Z23 : Z6 < (l0.length : Int) := od
        obtain ⟨Z24, Z25, Z26, Z27, Z28, Z29, Z30, Z31⟩ := at_T33 Z1.out Z6 Z22 Z23
        have Z32 := Z29
        have Z33 := Z28
        cases Z27
        replace Z28 := hc HB Z28
        replace Z29 := hc HB Z29
        have Z34 := ra Z31
        have Z35 := ra Z30
        clear Z31 Z30
        replace Z22 := eq_true Z22
        replace Z23 := eq_true Z23
        have Z36 : 0 ≤ ((Z15) : Int) := od
        have Z37 : (Z15) < (l0.length : Int) := od
        obtain ⟨Z38, Z39, Z40, Z41, Z42, Z43, Z44, Z45⟩ := at_T33 Z1.out (Z15) Z36 Z37
        have Z46 := Z43
        have Z47 := Z42
        obtain rfl : Z24 = Z38 := (by injection Z41)
        replace Z42 := hc HB Z42
        replace Z43 := hc HB Z43
        have Z48 := ra Z45
        have Z49 := ra Z44
        clear Z45 Z44
        replace Z36 := eq_true Z36
        replace Z37 := eq_true Z37
        have Z50 : 0 ≤ (Z6 : Int) := od
        have Z51 : Z6 < (l0.length : Int) := od
        obtain ⟨Z52, Z53, Z54, Z55, Z56, Z57, Z58, Z59⟩ := at_T33 Z1.out Z6 Z50 Z51
        have Z60 := Z57
        have Z61 := Z56
        obtain rfl : Z24 = Z52 := (by injection Z55)
        replace Z56 := hc HB Z56
        replace Z57 := hc HB Z57
        have Z62 := ra Z59
        have Z63 := ra Z58
        clear Z59 Z58
        replace Z50 := eq_true Z50
        replace Z51 := eq_true Z51
        refine start_ (n := 24) (S := fun w' => w'.cell? (Z24.add ((Z6).toNat * 2)) = some (.string ((rd_T33 l0 Z6).f0)) ∧ w'.cell? ⟨(Z24.add ((Z6).toNat * 2)).block, (Z24.add ((Z6).toNat * 2)).off + 1, none⟩ = some (.slice Z25 ((rd_T33 l0 Z6).f1).length Z26) ∧ w'.cell? (Z24.add (((Z15)).toNat * 2)) = some (.string ((rd_T33 l0 (Z15)).f0)) ∧ w'.cell? ⟨(Z24.add (((Z15)).toNat * 2)).block, (Z24.add (((Z15)).toNat * 2)).off + 1, none⟩ = some (.slice Z39 ((rd_T33 l0 (Z15)).f1).length Z40) ∧ w'.cell? (Z24.add ((Z6).toNat * 2)) = some (.string ((rd_T33 l0 Z6).f0)) ∧ w'.cell? ⟨(Z24.add ((Z6).toNat * 2)).block, (Z24.add ((Z6).toNat * 2)).off + 1, none⟩ = some (.slice Z53 ((rd_T33 l0 Z6).f1).length Z54)) (ds := []) (bl 24 0) (by kernel_rfl) rfl rfl ⟨(hc HB Z33), (hc HB Z32), (hc HB Z47), (hc HB Z46), (hc HB Z61), (hc HB Z60)⟩ (fun hHeld => ?_); refine with_tabW spec_ProbeSkyOk.tab6 spec_ProbeSkyOk.bits6 (fun HT_ HW_ => ?_)
        generalize wr.drew = Z64 at HB Z34 Z48 Z62 Z28 Z29 Z42 Z43 Z56 Z57 hHeld ⊢
        refine pu 0 13 (bl 24 1) ?_
        refine pu 1 14 (bl 24 3) ?_
        refine pu 2 15 (bl 24 7) ?_
        refine tk 3 16 (bl 24 15) ?_ hHeld
        refine oe 4 17 (bl 24 31) (fun K hK => ?_)
        refine gs Tryz.func50 #[.agg #[.string ((rd_T33 l0 Z6).f0), .slice Z25 ((rd_T33 l0 Z6).f1).length Z26]] ?_
        with_reducible refine (spec_ProbeTubeOk.calls Z8 ((rd_T33 l0 Z6).f0) _ _ ((rd_T33 l0 Z6).f1) true _ ?side1 ?side2 Z12.out).mono ?_
        (case side1 => exact sc Z34)
        (case side2 => exact Z35.out)
        rintro e Z65 ⟨rfl, hb⟩
        refine ⟨_, rfl, ?_⟩
        have _ := bs hb
        clear HB
        rename_i HB
        (try clear hb)
        refine hK.out _ _ ⟨(hc HB Z33), (hc HB Z32), (hc HB Z47), (hc HB Z46), (hc HB Z61), (hc HB Z60)⟩ (fun hHeld => ?_)
        clear hK K
        refine nm 17 ?_
        refine pu 5 18 (bl 24 63) ?_
        refine pu 6 19 (bl 24 127) ?_
        refine pu 7 20 (bl 24 255) ?_
        refine pu 8 21 (bl 24 511) ?_
        refine pu 9 22 (bl 24 1023) ?_
        refine pu 10 23 (bl 24 2047) ?_
        refine pu 11 24 (bl 24 4095) ?_
        refine pu 12 25 (bl 24 8191) ?_
        refine pu 13 26 (bl 24 16383) ?_
        refine pu 14 27 (bl 24 32767) ?_
        refine pu 16 29 (bl 24 98303) ?_
        refine pu 17 30 (bl 24 229375) ?_
        refine pu 18 31 (bl 24 491519) ?_
        refine pu 19 32 (bl 24 1015807) ?_
        refine tk 15 28 (bl 24 1048575) ?_ hHeld
        refine tk 20 33 (bl 24 2097151) ?_ hHeld
        refine pu 21 34 (bl 24 4194303) ?_
        refine pu 22 35 (bl 24 8388607) ?_
        refine pu 23 36 (bl 24 16777215) ?_
        refine done_ (done_of HT_.out (by kernel_rfl)) ?_
        try go_wp2
        go_roundg Z8
        case measure => have := Z7.out; omega
        case rel => exact ⟨_, rs, H', ⟨by have := Z7.out; omega⟩, ⟨bq⟩⟩
       ·rw [if_neg Z20] at H
        have Z21 : (Op.bytesLess (((rd_T33 l0 (Z15)).f0).toList) (((rd_T33 l0 Z6).f0).toList)) = false := by simpa using Z20
        clear Z20
        obtain rfl := Option.some.inj H
        try go_wp2
        have _ := ra (below_drew1 HB.out)
        clear HB
        rename_i HB
        have Z22 : 0 ≤ (Z6 : Int) := od
        have Z23 : Z6 < (l0.length : Int) := od
        obtain ⟨Z24, Z25, Z26, Z27, Z28, Z29, Z30, Z31⟩ := at_T33 Z1.out Z6 Z22 Z23
        have Z32 := Z29
        have Z33 := Z28
        cases Z27
        replace Z28 := hc HB Z28
        replace Z29 := hc HB Z29
        have Z34 := ra Z31
        have Z35 := ra Z30
        clear Z31 Z30
        replace Z22 := eq_true Z22
        replace Z23 := eq_true Z23
        have Z36 : 0 ≤ ((Z15) : Int) := od
        have Z37 : (Z15) < (l0.length : Int) := od
        obtain ⟨Z38, Z39, Z40, Z41, Z42, Z43, Z44, Z45⟩ := at_T33 Z1.out (Z15) Z36 Z37
        have Z46 := Z43
        have Z47 := Z42
        obtain rfl : Z24 = Z38 := (by injection Z41)
        replace Z42 := hc HB Z42
        replace Z43 := hc HB Z43
        have Z48 := ra Z45
        have Z49 := ra Z44
        clear Z45 Z44
        replace Z36 := eq_true Z36
        replace Z37 := eq_true Z37
        have Z50 : 0 ≤ (Z6 : Int) := od
        have Z51 : Z6 < (l0.length : Int) := od
        obtain ⟨Z52, Z53, Z54, Z55, Z56, Z57, Z58, Z59⟩ := at_T33 Z1.out Z6 Z50 Z51
        have Z60 := Z57
        have Z61 := Z56
        obtain rfl : Z24 = Z52 := (by injection Z55)
        replace Z56 := hc HB Z56
        replace Z57 := hc HB Z57
        have Z62 := ra Z59
        have Z63 := ra Z58
        clear Z59 Z58
        replace Z50 := eq_true Z50
        replace Z51 := eq_true Z51
        refine start_ (n := 24) (S := fun w' => w'.cell? (Z24.add ((Z6).toNat * 2)) = some (.string ((rd_T33 l0 Z6).f0)) ∧ w'.cell? ⟨(Z24.add ((Z6).toNat * 2)).block, (Z24.add ((Z6).toNat * 2)).off + 1, none⟩ = some (.slice Z25 ((rd_T33 l0 Z6).f1).length Z26) ∧ w'.cell? (Z24.add (((Z15)).toNat * 2)) = some (.string ((rd_T33 l0 (Z15)).f0)) ∧ w'.cell? ⟨(Z24.add (((Z15)).toNat * 2)).block, (Z24.add (((Z15)).toNat * 2)).off + 1, none⟩ = some (.slice Z39 ((rd_T33 l0 (Z15)).f1).length Z40) ∧ w'.cell? (Z24.add ((Z6).toNat * 2)) = some (.string ((rd_T33 l0 Z6).f0)) ∧ w'.cell? ⟨(Z24.add ((Z6).toNat * 2)).block, (Z24.add ((Z6).toNat * 2)).off + 1, none⟩ = some (.slice Z53 ((rd_T33 l0 Z6).f1).length Z54)) (ds := []) (bl 24 0) (by kernel_rfl) rfl rfl ⟨(hc HB Z33), (hc HB Z32), (hc HB Z47), (hc HB Z46), (hc HB Z61), (hc HB Z60)⟩ (fun hHeld => ?_); refine with_tabW spec_ProbeSkyOk.tab6 spec_ProbeSkyOk.bits6 (fun HT_ HW_ => ?_)
        generalize wr.drew = Z64 at HB Z34 Z48 Z62 Z28 Z29 Z42 Z43 Z56 Z57 hHeld ⊢
        refine pu 0 13 (bl 24 1) ?_
        refine pu 1 14 (bl 24 3) ?_
        refine pu 2 15 (bl 24 7) ?_
        refine tk 3 16 (bl 24 15) ?_ hHeld
        refine oe 4 17 (bl 24 31) (fun K hK => ?_)
        refine gs Tryz.func50 #[.agg #[.string ((rd_T33 l0 Z6).f0), .slice Z25 ((rd_T33 l0 Z6).f1).length Z26]] ?_
        with_reducible refine (spec_ProbeTubeOk.calls Z8 ((rd_T33 l0 Z6).f0) _ _ ((rd_T33 l0 Z6).f1) true _ ?side1 ?side2 Z12.out).mono ?_
        (case side1 => exact sc Z34)
        (case side2 => exact Z35.out)
        rintro e Z65 ⟨rfl, hb⟩
        refine ⟨_, rfl, ?_⟩
        have _ := bs hb
        clear HB
        rename_i HB
        (try clear hb)
        refine hK.out _ _ ⟨(hc HB Z33), (hc HB Z32), (hc HB Z47), (hc HB Z46), (hc HB Z61), (hc HB Z60)⟩ (fun hHeld => ?_)
        clear hK K
        refine nm 17 ?_
        refine pu 5 18 (bl 24 63) ?_
        refine pu 6 19 (bl 24 127) ?_
        refine pu 7 20 (bl 24 255) ?_
        refine pu 8 21 (bl 24 511) ?_
        refine pu 9 22 (bl 24 1023) ?_
        refine pu 10 23 (bl 24 2047) ?_
        refine pu 11 24 (bl 24 4095) ?_
        refine pu 12 25 (bl 24 8191) ?_
        refine pu 13 26 (bl 24 16383) ?_
        refine pu 14 27 (bl 24 32767) ?_
        refine pu 16 29 (bl 24 98303) ?_
        refine pu 17 30 (bl 24 229375) ?_
        refine pu 18 31 (bl 24 491519) ?_
        refine pu 19 32 (bl 24 1015807) ?_
        refine tk 15 28 (bl 24 1048575) ?_ hHeld
        refine tk 20 33 (bl 24 2097151) ?_ hHeld
        refine pu 21 34 (bl 24 4194303) ?_
        refine pu 22 35 (bl 24 8388607) ?_
        refine pu 23 36 (bl 24 16777215) ?_
        refine done_ (done_of HT_.out (by kernel_rfl)) ?_
        try go_wp2
        go_ret
        exact ⟨by first | rfl | (simp [errW_none, errW_some] <;> rfl) | (simp only [← Z16]; first | rfl | (simp [errW_none, errW_some] <;> rfl)) | (simp [*, errW_none, errW_some] <;> rfl), bq⟩
      ·have H' := ra H; clear H
       try go_wp2
       have _ := ra (below_drew1 HB.out)
       clear HB
       rename_i HB
       have Z15 : 0 ≤ (Z6 : Int) := od
       have Z16 : Z6 < (l0.length : Int) := od
       obtain ⟨Z17, Z18, Z19, Z20, Z21, Z22, Z23, Z24⟩ := at_T33 Z1.out Z6 Z15 Z16
       have Z25 := Z22
       have Z26 := Z21
       cases Z20
       replace Z21 := hc HB Z21
       replace Z22 := hc HB Z22
       have Z27 := ra Z24
       have Z28 := ra Z23
       clear Z24 Z23
       replace Z15 := eq_true Z15
       replace Z16 := eq_true Z16
       refine start_ (n := 24) (S := fun w' => w'.cell? (Z17.add ((Z6).toNat * 2)) = some (.string ((rd_T33 l0 Z6).f0)) ∧ w'.cell? ⟨(Z17.add ((Z6).toNat * 2)).block, (Z17.add ((Z6).toNat * 2)).off + 1, none⟩ = some (.slice Z18 ((rd_T33 l0 Z6).f1).length Z19)) (ds := []) (bl 24 0) (by kernel_rfl) rfl rfl ⟨(hc HB Z26), (hc HB Z25)⟩ (fun hHeld => ?_); refine with_tabW spec_ProbeSkyOk.tab6 spec_ProbeSkyOk.bits6 (fun HT_ HW_ => ?_)
       generalize wr.drew = Z29 at HB Z27 Z21 Z22 hHeld ⊢
       refine pu 0 13 (bl 24 1) ?_
       refine pu 1 14 (bl 24 3) ?_
       refine pu 2 15 (bl 24 7) ?_
       refine tk 3 16 (bl 24 15) ?_ hHeld
       refine oe 4 17 (bl 24 31) (fun K hK => ?_)
       refine gs Tryz.func50 #[.agg #[.string ((rd_T33 l0 Z6).f0), .slice Z18 ((rd_T33 l0 Z6).f1).length Z19]] ?_
       with_reducible refine (spec_ProbeTubeOk.calls Z8 ((rd_T33 l0 Z6).f0) _ _ ((rd_T33 l0 Z6).f1) true _ ?side1 ?side2 Z12.out).mono ?_
       (case side1 => exact sc Z27)
       (case side2 => exact Z28.out)
       rintro e Z30 ⟨rfl, hb⟩
       refine ⟨_, rfl, ?_⟩
       have _ := bs hb
       clear HB
       rename_i HB
       (try clear hb)
       refine hK.out _ _ ⟨(hc HB Z26), (hc HB Z25)⟩ (fun hHeld => ?_)
       clear hK K
       refine nm 17 ?_
       refine pu 5 18 (bl 24 63) ?_
       refine pu 6 19 (bl 24 127) ?_
       refine pu 7 20 (bl 24 255) ?_
       refine pu 8 21 (bl 24 511) ?_
       refine pu 9 22 (bl 24 1023) ?_
       refine pv 10 23 (bl 24 2047) ?_
       refine pv 11 24 (bl 24 4095) ?_
       refine pv 12 25 (bl 24 8191) ?_
       refine pv 13 26 (bl 24 16383) ?_
       refine pv 14 27 (bl 24 32767) ?_
       refine pv 15 28 (bl 24 65535) ?_
       refine pv 16 29 (bl 24 131071) ?_
       refine pv 17 30 (bl 24 262143) ?_
       refine pv 18 31 (bl 24 524287) ?_
       refine pv 19 32 (bl 24 1048575) ?_
       refine pv 20 33 (bl 24 2097151) ?_
       refine pv 21 34 (bl 24 4194303) ?_
       refine pu 22 35 (bl 24 8388607) ?_
       refine pu 23 36 (bl 24 16777215) ?_
       refine done_ (done_of HT_.out (by kernel_rfl)) ?_
       try go_wp2
       go_roundg Z8
       case measure => have := Z7.out; omega
       case rel => exact ⟨_, rs, H', ⟨by have := Z7.out; omega⟩, ⟨bq⟩⟩
     ·obtain rfl := Option.some.inj H
      try go_wp2
      have _ := ra (below_drew1 HB.out)
      clear HB
      rename_i HB
      have Z14 : 0 ≤ (Z6 : Int) := od
      have Z15 : Z6 < (l0.length : Int) := od
      obtain ⟨Z16, Z17, Z18, Z19, Z20, Z21, Z22, Z23⟩ := at_T33 Z1.out Z6 Z14 Z15
      have Z24 := Z21
      have Z25 := Z20
      cases Z19
      replace Z20 := hc HB Z20
      replace Z21 := hc HB Z21
      have Z26 := ra Z23
      have Z27 := ra Z22
      clear Z23 Z22
      replace Z14 := eq_true Z14
      replace Z15 := eq_true Z15
      refine start_ (n := 24) (S := fun w' => w'.cell? (Z16.add ((Z6).toNat * 2)) = some (.string ((rd_T33 l0 Z6).f0)) ∧ w'.cell? ⟨(Z16.add ((Z6).toNat * 2)).block, (Z16.add ((Z6).toNat * 2)).off + 1, none⟩ = some (.slice Z17 ((rd_T33 l0 Z6).f1).length Z18)) (ds := []) (bl 24 0) (by kernel_rfl) rfl rfl ⟨(hc HB Z25), (hc HB Z24)⟩ (fun hHeld => ?_); refine with_tabW spec_ProbeSkyOk.tab6 spec_ProbeSkyOk.bits6 (fun HT_ HW_ => ?_)
      generalize wr.drew = Z28 at HB Z26 Z20 Z21 hHeld ⊢
      refine pu 0 13 (bl 24 1) ?_
      refine pu 1 14 (bl 24 3) ?_
      refine pu 2 15 (bl 24 7) ?_
      refine tk 3 16 (bl 24 15) ?_ hHeld
      refine oe 4 17 (bl 24 31) (fun K hK => ?_)
      refine gs Tryz.func50 #[.agg #[.string ((rd_T33 l0 Z6).f0), .slice Z17 ((rd_T33 l0 Z6).f1).length Z18]] ?_
      with_reducible refine (spec_ProbeTubeOk.calls Z8 ((rd_T33 l0 Z6).f0) _ _ ((rd_T33 l0 Z6).f1) false _ ?side1 ?side2 Z12.out).mono ?_
      (case side1 => exact sc Z26)
      (case side2 => exact Z27.out)
      rintro e Z29 ⟨rfl, hb⟩
      refine ⟨_, rfl, ?_⟩
      have _ := bs hb
      clear HB
      rename_i HB
      (try clear hb)
      refine hK.out _ _ ⟨(hc HB Z25), (hc HB Z24)⟩ (fun hHeld => ?_)
      clear hK K
      refine nm 17 ?_
      refine pu 5 18 (bl 24 63) ?_
      refine pu 6 19 (bl 24 127) ?_
      refine pv 7 20 (bl 24 255) ?_
      refine pv 8 21 (bl 24 511) ?_
      refine pv 9 22 (bl 24 1023) ?_
      refine pv 10 23 (bl 24 2047) ?_
      refine pv 11 24 (bl 24 4095) ?_
      refine pv 12 25 (bl 24 8191) ?_
      refine pv 13 26 (bl 24 16383) ?_
      refine pv 14 27 (bl 24 32767) ?_
      refine pv 15 28 (bl 24 65535) ?_
      refine pv 16 29 (bl 24 131071) ?_
      refine pv 17 30 (bl 24 262143) ?_
      refine pv 18 31 (bl 24 524287) ?_
      refine pv 19 32 (bl 24 1048575) ?_
      refine pv 20 33 (bl 24 2097151) ?_
      refine pv 21 34 (bl 24 4194303) ?_
      refine pv 22 35 (bl 24 8388607) ?_
      refine pu 23 36 (bl 24 16777215) ?_
      refine done_ (done_of HT_.out (by kernel_rfl)) ?_
      try go_wp2
      go_ret
      exact ⟨re, bq⟩
    ·obtain rfl := Option.some.inj H
     go_wp2
     go_ret
     exact ⟨re, bq⟩
theorem spec_l6At.calls (k : Nat) (A0 : Option Addr) (c0 : Nat) (l0 : List (S33)) (a1 : ByteArray) (r : Int) (w : World) (hr0 : Kd.C k33 w A0 l0.length l0) (hc0 : l0.length ≤ c0) (h : spec_l6At.f k l0 a1 = some r) :
  Calls Tryz.prog 52 #[.slice A0 l0.length c0, .string a1] w fun e w' => e = .returned (.int .i64 r) ∧ Drawn0 w w' := by
 have Z0 := ra hr0
 have Z1 := ra hc0
 clear hr0 hc0
 have H := h; unfold spec_l6At.f at H
 clear h
 have H' := ra H; clear H
 go_enter Tryz.func52, Tryz.ntmps52
 go_wp2
 go_loopg [5] k (fun kq v5 w' => ∃ (x5_1 : Int), v5 = .int .i64 x5_1 ∧ Aside0 (spec_l6At.l0 kq l0 a1 x5_1 = some r) ∧ Aside0 (kq ≤ k) ∧ Drawn0 w w')
 case atStart => exact ⟨(0), rs, H', ⟨Nat.le_refl _⟩, d0⟩
 case round =>
  clear H'
  obtain ⟨Z2, rfl, HA, Z3, ⟨Z4, rfl⟩⟩ := hrel
  cases gk with
  | zero => exact absurd HA.out (by simp [spec_l6At.l0])
  | succ Z5 =>
   have H := HA.out
   clear HA
   simp only [spec_l6At.l0] at H
   rcases td H with ⟨Z6, H⟩ | ⟨Z6, H⟩
   ·obtain ⟨Z7, H⟩ := tn H
    rcases ed H with ⟨-, Z8, Z9, H⟩ | ⟨-, Z8, Z9, H⟩
    ·obtain rfl := Option.some.inj H
     have Z10 : 0 ≤ (Z2 : Int) := od
     have Z11 : Z2 < (l0.length : Int) := od
     obtain ⟨Z12, Z13, Z14, Z15, Z16, Z17, Z18, Z19⟩ := at_T33 Z0.out Z2 Z10 Z11
     cases Z15
     have Z20 := ra Z19
     have Z21 := ra Z18
     clear Z19 Z18
     replace Z10 := eq_true Z10
     replace Z11 := eq_true Z11
     go_wp2
     go_ret
     exact ⟨rs, d0⟩
    ·have H' := ra H; clear H
     have Z10 : 0 ≤ (Z2 : Int) := od
     have Z11 : Z2 < (l0.length : Int) := od
     obtain ⟨Z12, Z13, Z14, Z15, Z16, Z17, Z18, Z19⟩ := at_T33 Z0.out Z2 Z10 Z11
     cases Z15
     have Z20 := ra Z19
     have Z21 := ra Z18
     clear Z19 Z18
     replace Z10 := eq_true Z10
     replace Z11 := eq_true Z11
     go_wp2
     go_roundg Z5
     case measure => have := Z3.out; omega
     case rel => exact ⟨_, rs, H', ⟨by have := Z3.out; omega⟩, d0⟩
   ·obtain rfl := Option.some.inj H
    go_wp2
    go_ret
    exact ⟨rs, d0⟩
def spec_l2Copy.T1 : Bool × List (List Nat × List Nat) := (true, [([], []), ([0], [0]), ([], []), ([], []), ([3], [3]), ([2, 4], [2, 4]), ([1, 5], [1, 5]), ([6, 5, 0, 1, 2, 3, 4, 5, 6], [6])])
def spec_l2Copy.B1 : List Nat := [0, 1, 0, 0, 8, 28, 63, 127]
theorem spec_l2Copy.tab1 : rtab .any (opsOf Tryz.f67 1) = spec_l2Copy.T1 := by kernel_rfl
theorem spec_l2Copy.bits1 : waitsOk spec_l2Copy.T1.2 spec_l2Copy.B1 = true := by kernel_rfl
theorem spec_l2Copy.calls (a0_0 : ByteArray) (A0_1 : Option Addr) (c0_1 : Nat) (l0_1 : List (S46)) (r1 : ByteArray) (r2 : List (S46)) (w : World) (hr0_1 : Kd.C k46 w A0_1 l0_1.length l0_1) (hc0_1 : l0_1.length ≤ c0_1) (h : spec_l2Copy.f a0_0 l0_1 = some (r1, r2)) :
  Calls Tryz.prog 67 #[.agg #[.string a0_0, .slice A0_1 l0_1.length c0_1]] w fun e w' => ∃ v1_ : Value, e = .returned (.agg #[.string r1, v1_]) ∧ Kd.R k46 46 w' w.heap.size (fun _ => True) v1_ r2 ∧ Below w.heap.size w w' := by
 have Z0 := Tryz.underlying33
 have Z1 := ra hr0_1
 have Z2 := ra hc0_1
 clear hr0_1 hc0_1
 have HB := ra (Below.refl w.heap.size w)
 have H := h; unfold spec_l2Copy.f at H
 clear h
 obtain ⟨Z3, hy_⟩ : ∃ y_ : List (S46), y_ = (([] : List (S46))) := ⟨_, rfl⟩
 replace H : (if Z3.length + l0_1.length < 2932031007402 then (some (a0_0, (Z3 ++ l0_1))) else (none)) = some (r1, r2) := yh
 have Z4 := ra hy_
 clear hy_
 by_cases Z5 : Z3.length + l0_1.length < 2932031007402
 ·rw [if_pos Z5] at H
  have Z6 := ra Z5; clear Z5
  obtain ⟨Z7, hy_⟩ : ∃ y_ : List (S46), y_ = (Z3 ++ l0_1) := ⟨_, rfl⟩
  replace H : (some (a0_0, Z7)) = some (r1, r2) := yh
  have Z8 := ra hy_
  clear hy_
  simp only [Option.some.injEq, Prod.mk.injEq] at H
  obtain ⟨rfl, rfl⟩ := H
  go_enter Tryz.func67, Tryz.ntmps67
  try go_wp2_with (first | ((with_reducible refine gd 1 rfl ?_); refine bd 1 #[.string a0_0, .slice A0_1 l0_1.length c0_1] 33 ?_; intro Z9 Z10 HB Z11 Z12) | ((with_reducible refine gd 2 rfl ?_); refine bf 2 #[.string (⟨#[]⟩ : ByteArray), .slice none 0 0] 33 ?_; intro Z13 Z14 hg hb HB Z15 Z16; have Z17 := bn hg (bk Z11); have Z18 := bm hg (bk Z11); replace Z11 := bb (bk Z11) hb; clear hg hb))
  have _ := ra (blk_drew Z11.out)
  have _ := ra (blk_drew Z15.out)
  have _ := ra (below_drew1 HB.out)
  clear Z11 Z15 HB
  rename_i Z11 Z15 HB
  refine start_ (n := 8) (S := fun w' => w'.cell? ⟨Z9, 0, none⟩ = some (.string a0_0) ∧ w'.cell? ⟨Z9, 1, none⟩ = some (.slice A0_1 l0_1.length c0_1)) (ds := []) (bl 8 0) (by kernel_rfl) rfl rfl ⟨(blk_cell Z11.out 0).trans rfl, (blk_cell Z11.out 1).trans rfl⟩ (fun hHeld => ?_); refine with_tabW spec_l2Copy.tab1 spec_l2Copy.bits1 (fun HT_ HW_ => ?_)
  generalize Z14.drew = Z19 at Z11 Z15 HB hHeld ⊢
  refine pu 0 3 (bl 8 1) ?_
  refine pu 3 6 (bl 8 9) ?_
  refine tk 1 4 (bl 8 11) ?_ hHeld
  refine tk 4 7 (bl 8 27) ?_ hHeld
  refine oe 2 5 (bl 8 31) (fun K hK => ?_)
  refine Kd.R_lit_step k46 _ 46 ?hg (N := 5) ?hd (xs := ([] : List (S46))) (inner := []) (ok := fun _ => True) (okp := fun _ => True) ?hr ?hp (fun _ hk => hk) trivial (Below.refl _ _) (Nat.le_refl _) (by simp) ?_; (case hd => rfl); (case hg => rfl); (case hr => first | (go_simp; done) | (go_simp; rfl)); (case hp => exact (Reps.none _ _))
  intro Z20 Z21 Z22 hb hg_ hnew_
  clear hg_ hnew_
  (first | rw [← Z4.out] at Z22 | (simp only [Int.reduceToNat] at Z22; rw [← Z4.out] at Z22))
  have _ := ra (Kd.R_lower Z22 (below_size bq))
  have _ := bb (bk Z11) hb
  have _ := bb (bk Z15) hb
  have _ := bs hb
  clear Z11 Z15 HB
  rename_i Z23 Z11 Z15 HB
  clear hb Z22
  refine hK.out _ _ ⟨(blk_cell Z11.out 0).trans rfl, (blk_cell Z11.out 1).trans rfl⟩ (fun hHeld => ?_)
  clear hK K
  refine nm 5 ?_
  refine oe 5 8 (bl 8 63) (fun K hK => ?_)
  refine Kd.R_append_rows_step k46 (w0 := w) w.heap.size (by rfl) (.tmp 5) (.tmp 7) 31 46 (.agg #[(.int .i64 0), (.int .i64 0), (.int .i64 0), (.int .i64 0), (.int .i64 0), (.int .i64 0)]) 48 rfl Tryz.underlying31 info46 rfl (by decide) (by omega) Z20 Z3 l0_1 _ _ _ (fun _ => True) (fun _ => False) rfl rfl ?aO ?aR (fun _ _ h => h) (fun _ h => h.elim) ?aF ?aB ?aS ?aL ?_
  (case aR => exact sc Z1)
  (case aB => exact bq)
  (case aF => exact (fun _ _ => trivial))
  (case aO => exact (rq Z23))
  (case aS => exact (below_size bq))
  (case aL => have := Z6.out; omega)
  intro Z24 Z25 ho hb hg hat
  rw [← Z8.out] at ho
  have _ := ra (blk_grown (g := Z9) (o := .cells #[.string a0_0, .slice A0_1 l0_1.length c0_1] 33 (0, 0)) (bk Z11) hg (Kd.R_ne Z23.out Z11.out (by decide)))
  have _ := ra (blk_grown (g := Z13) (o := .cells #[.string (⟨#[]⟩ : ByteArray), .slice none 0 0] 33 (0, 0)) (bk Z15) hg (Kd.R_ne Z23.out Z15.out (by decide)))
  have _ := ra (hb)
  have _ := ra (ho)
  clear Z11 Z15 HB Z23
  rename_i Z11 Z15 HB Z26
  clear ho hb hg hat
  obtain ⟨Z27, Z28, Z29⟩ := Kd.R_slice Z26.out
  (first | subst Z29 | (injection Z29 with f1_ f2_ f3_; have Z30 := f1_.symm; have Z31 := f3_.symm; clear f1_ f2_ f3_; subst Z30; subst Z31))
  refine hK.out _ _ ⟨(blk_cell Z11.out 0).trans rfl, (blk_cell Z11.out 1).trans rfl⟩ (fun hHeld => ?_)
  clear hK K
  refine nm 8 ?_
  refine pu 6 9 (bl 8 127) ?_
  refine one_ (i := 7) (N := none) #[true, true, true, true, true, true, true, true] rfl rfl (one_of HT_.out (by kernel_rfl)) (by decide) (fun K hK => ?_)
  have Z32 : Z25.cell? ⟨Z13, 0, none⟩ = some (.string (⟨#[]⟩ : ByteArray)) := (blk_cell Z15.out 0).trans rfl
  have Z33 := blk_frozen Z15.out 0
  have Z34 := Z17.out
  have Z35 := Z18.out
  have Z36 : Z25.cell? ⟨Z13, 1, none⟩ = some (.slice none 0 0) := (blk_cell Z15.out 1).trans rfl
  have Z37 := blk_frozen Z15.out 1
  have Z38 := Z17.out
  have Z39 := Z18.out
  refine skip_ (w1 := ?_) (by rfl) rfl ?_ ?_
  rotate_left
  ·go_simp
   rfl
  refine hK.out _ _ ⟨cf hHeld.1, cf hHeld.2⟩ (fun hHeld => ?_)
  clear hK K
  refine done_ (done_of HT_.out (by kernel_rfl)) ?_
  try go_wp2
  refine bodyPost_ret (results_cell_row rfl _ _ Z13 33 #[.string a0_0, .slice Z27 Z7.length Z28] (0, 0) _ rfl (bp Z15) Tryz.underlying33 rfl (by kernel_rfl)) rfl ?_
  exact ⟨_, re, by (with_reducible repeat (first | apply Kd.R_alloc | apply Kd.R_drewN | apply Kd.R_drew)); exact Kd.R_mono (rf (Kd.R_types Z26.out Z15.out (by decide))) (fun _ hk => trivial), bq⟩
 ·rw [if_neg Z5] at H
  exact absurd H (by simp)
theorem spec_l2List.calls (k : Nat) (A0 : Option Addr) (c0 : Nat) (l0 r : List (S33)) (w : World) (hr0 : Kd.C k33 w A0 l0.length l0) (hc0 : l0.length ≤ c0) (h : spec_l2List.f k l0 = some r) :
  Calls Tryz.prog 69 #[.slice A0 l0.length c0] w fun e w' => ∃ v0_ : Value, e = .returned (v0_) ∧ Kd.S k33 33 w' w.heap.size (fun _ => True) v0_ r ∧ Below w.heap.size w w' := by
 have Z0 := Tryz.underlying33
 have Z1 := ra hr0
 have Z2 := ra hc0
 clear hr0 hc0
 have HB := ra (Below.refl w.heap.size w)
 have H := h; unfold spec_l2List.f at H
 clear h
 obtain ⟨Z3, hy_⟩ : ∃ y_ : List (S33), y_ = (([] : List (S33))) := ⟨_, rfl⟩
 replace H : (spec_l2List.l0 k l0 Z3 0) = some r := yh
 have Z4 := ra hy_
 clear hy_
 have H' := ra H; clear H
 go_enter Tryz.func69, Tryz.ntmps69
 go_wp2_with (first | ((with_reducible refine gd 5 rfl ?_); refine Kd.S_lit k33 _ 33 ?hg (N := 5) ?hd (xs := ([] : List (S33))) (inner := []) (ok := fun _ => True) (okp := fun _ => True) ?hr ?hp (fun _ hk => hk) trivial (Below.refl _ _) (Nat.le_refl _) (by simp) ?_; (case hd => rfl); (case hg => rfl); (case hr => first | (go_simp; done) | (go_simp; rfl)); (case hp => exact (Reps.none _ _)); intro Z5 Z6 Z7 hb hg_ hnew_; clear hg_ hnew_; (first | rw [← Z4.out] at Z7 | (simp only [Int.reduceToNat] at Z7; rw [← Z4.out] at Z7)); have Z8 := ra (Kd.S_lower Z7 (below_size bq)); replace HB := bs hb; clear hb Z7))
 go_loopg [3, 4] k (fun kq v3 v4 w' => ∃ (x3_1 : List (S33)) (x4_1 : Int), v4 = .int .i64 x4_1 ∧ Aside0 (spec_l2List.l0 kq l0 x3_1 x4_1 = some r) ∧ Aside0 (kq ≤ k) ∧ Aside0 (Kd.S k33 33 w' w.heap.size (fun _ => True) v3 x3_1) ∧ Aside0 (Below w.heap.size w w'))
 case atStart => exact ⟨(Z3), (0), rs, H', ⟨Nat.le_refl _⟩, ⟨by (with_reducible repeat (first | apply Kd.S_alloc | apply Kd.S_drewN | apply Kd.S_drew)); exact Z8.out⟩, ⟨bq⟩⟩
 case round =>
  clear H'
  obtain ⟨Z9, Z10, rfl, HA, Z11, Z12, HB⟩ := hrel
  cases gk with
  | zero => exact absurd HA.out (by simp [spec_l2List.l0])
  | succ Z13 =>
   have H := HA.out
   clear HA
   simp only [spec_l2List.l0] at H
   rcases td H with ⟨Z14, H⟩ | ⟨Z14, H⟩
   ·obtain ⟨Z15, H⟩ := tn H
    obtain ⟨⟨Z16, Z17⟩, Z18, H⟩ := bo H
    try dsimp only at H
    by_cases Z19 : Z9.length < 3518437208883
    ·rw [if_pos Z19] at H
     have Z20 := ra Z19; clear Z19
     obtain ⟨Z21, hy_⟩ : ∃ y_ : List (S33), y_ = (Z9 ++ [(⟨Z16, Z17⟩ : S33)]) := ⟨_, rfl⟩
     replace H : (spec_l2List.l0 Z13 l0 Z21 (wrap64 (Z10 + 1))) = some r := yh
     have Z22 := ra hy_
     clear hy_
     have H' := ra H; clear H
     have Z23 : 0 ≤ (Z10 : Int) := od
     have Z24 : Z10 < (l0.length : Int) := od
     obtain ⟨Z25, Z26, Z27, Z28, Z29, Z30, Z31, Z32⟩ := at_T33 Z1.out Z10 Z23 Z24
     cases Z28
     replace Z29 := hc HB Z29
     replace Z30 := hc HB Z30
     have Z33 := ra Z32
     have Z34 := ra Z31
     clear Z32 Z31
     replace Z23 := eq_true Z23
     replace Z24 := eq_true Z24
     go_wp2_with (first | ((with_reducible refine gc 67 rfl ?_); refine gx (some 17) Tryz.func67 (spec_l2Copy.calls _ _ _ _ _ _ _ (sc Z33) Z34.out Z18.out) ?_; rintro Z35 Z36 ⟨Z37, hb⟩; have Z38 := ra (Kd.R_lower Z37 (below_size bq)); replace Z12 := ra (Kd.S_elder' (by (with_reducible repeat (first | apply Kd.S_alloc | apply Kd.S_drewN | apply Kd.S_drew)); exact Z12.out) (Kd.R_base Z37) hb); replace HB := bs hb; clear hb Z37; obtain ⟨Z39, Z40, Z41⟩ := Kd.R_slice Z38.out; subst Z41) | ((with_reducible refine gate_builtin (b := .append) (xs := #[.tmp 12, .tmp 18]) rfl ?_); at_builtin; refine Kd.S_append k33 (w0 := w) w.heap.size rfl (.tmp 12) (.tmp 18) 30 33 (.agg #[(.string ⟨#[]⟩), (.slice none 0 0)]) 40 rfl Tryz.underlying30 info33 rfl (by decide) (by omega) u3 Z9 (⟨Z16, Z17⟩ : S33) [.string Z16, .slice Z39 Z17.length Z40] (fun _ => True) (fun k_ => some k_ = (.slice Z39 Z17.length Z40 : Value).ownBlock) rfl rfl ?aP (fun k_ hk_ => ((Kd.R_mono (ok' := fun k_ => ((fun _ => True)) k_ ∧ some k_ ≠ (u3 : Value).ownBlock) (Kd.R_apart' (Z38.out) (Kd.S_typed Z12.out) (by decide)) (fun k_ hk => ⟨trivial, hk.2⟩))).1 k_ hk_.symm) ?aF ?aO ?aB ?aS ?aL ?_; (case aP => exact k33_mkM _ _ _ (⟨Z16, Z17⟩ : S33) (Kd.R_mono (Kd.R_tight rfl (Kd.R_mono (ok' := fun k_ => ((fun _ => True)) k_ ∧ some k_ ≠ (u3 : Value).ownBlock) (Kd.R_apart' (Z38.out) (Kd.S_typed Z12.out) (by decide)) (fun k_ hk => ⟨trivial, hk.2⟩))) (fun _ h_ => h_))); (case aB => exact bq); (case aF => exact (fun _ _ => trivial)); (case aO => exact (by (with_reducible repeat (first | apply Kd.S_alloc | apply Kd.S_drewN | apply Kd.S_drew)); exact Kd.S_mono Z12.out (fun k_ hk => ⟨trivial, fun e_ => hk.2 e_⟩))); (case aS => exact (below_size bq)); (case aL => have := Z20.out; omega); intro Z42 Z43 ho hb hg hat; rw [← Z22.out] at ho; have _ := ra (hb); have _ := ra (ho); clear HB Z12 Z38; rename_i HB Z44; clear ho hb hg hat))
     go_roundg Z13
     case measure => have := Z11.out; omega
     case rel => exact ⟨_, _, rs, H', ⟨by have := Z11.out; omega⟩, ⟨by (with_reducible repeat (first | apply Kd.S_alloc | apply Kd.S_drewN | apply Kd.S_drew)); exact Z44.out⟩, ⟨bq⟩⟩
    ·rw [if_neg Z19] at H
     exact absurd H (by simp)
   ·obtain rfl := Option.some.inj H
    go_wp2
    go_ret
    exact ⟨_, re, by (with_reducible repeat (first | apply Kd.S_alloc | apply Kd.S_drewN | apply Kd.S_drew)); exact Z12.out, bq⟩
theorem spec_ProbeHappen.calls (k : Nat) (P0_ : Nat → Prop) (A0 : Option Addr) (c0 : Nat) (l0 : List (S33)) (a1_0 : Bool) (a1_1 : ByteArray) (P1_2_ : Nat → Prop) (A1_2 : Option Addr) (c1_2 : Nat) (l1_2 : List (S46)) (r1 : List (S33)) (r2 : Int) (w : World) (hs0 : Kd.V k33 33 w w.heap.size (fun k_ => P0_ k_) (.slice A0 l0.length c0) l0) (hs1_2 : Kd.V k46 46 w w.heap.size (fun k_ => P1_2_ k_) (.slice A1_2 l1_2.length c1_2) l1_2) (h : spec_ProbeHappen.f k l0 a1_0 a1_1 l1_2 = some (r1, r2)) :
  Calls Tryz.prog 46 #[.slice A0 l0.length c0, .agg #[.bool a1_0, .string a1_1, .slice A1_2 l1_2.length c1_2]] w fun e w' => ∃ v0_ : Value, e = .returned (.tuple #[v0_, .int .i64 r2]) ∧ Kd.S k33 33 w' w.heap.size (fun _ => True) v0_ r1 ∧ Below w.heap.size w w' := by
 have Z0 := Tryz.underlying55
 have Z1 := Tryz.underlying33
 have Z2 := ra (show Kd.V k33 33 w w.heap.size (fun k_ => ((P0_ k_ ∨ P1_2_ k_) ∨ w.heap.size ≤ k_)) (.slice A0 l0.length c0) l0 from Kd.V_mono hs0 (fun k_ hk => .inl (.inl hk)))
 have Z3 := ra (show Kd.V k46 46 w w.heap.size (fun k_ => ((P0_ k_ ∨ P1_2_ k_) ∨ w.heap.size ≤ k_)) (.slice A1_2 l1_2.length c1_2) l1_2 from Kd.V_mono hs1_2 (fun k_ hk => .inl (.inr hk)))
 have HB := ra (Below.refl w.heap.size w)
 have H := h; unfold spec_ProbeHappen.f at H
 clear h
 obtain ⟨Z4, Z5, H⟩ := bo H
 rcases ud H with ⟨rfl, Z6⟩ | ⟨rfl, Z6⟩ <;> have H := Z6
 ·have Z7 := ra H; clear H
  go_enter Tryz.func46, Tryz.ntmps46
  go_upto_region 3 with (first | ((with_reducible refine gd 3 rfl ?_); (try (refine gate_guard (by rfl) ?_; dsimp only)); refine bf 3 #[.bool a1_0, .string a1_1, .slice A1_2 l1_2.length c1_2] 55 ?_; intro Z8 Z9 hg hb HB Z10 Z11; replace Z2 := ra (Kd.V_below (Kd.V_elderB (vq Z2) Z8 (Nat.le_of_eq hg.symm)) hb); replace Z3 := ra (Kd.V_below (Kd.V_elderB (vq Z3) Z8 (Nat.le_of_eq hg.symm)) hb); clear hg hb) | (go_at_call 48; (with_reducible refine (spec_ProbeSkyOk.calls _ _ _ _ _ _ ?side1 ?side2 Z5.out).mono ?_); (case side1 => exact sv Z2); (case side2 => exact (Kd.V_reads' Z2.out).2.1); rintro e Z12 ⟨rfl, hb⟩; replace Z2 := ra (Kd.V_below (vq Z2) hb); replace Z3 := ra (Kd.V_below (vq Z3) hb); replace Z10 := bb (bk Z10) hb; replace HB := bs hb; clear hb))
  repeat (go_quiet (first | ((with_reducible refine gd 3 rfl ?_); (try (refine gate_guard (by rfl) ?_; dsimp only)); refine bf 3 #[.bool a1_0, .string a1_1, .slice A1_2 l1_2.length c1_2] 55 ?_; intro Z8 Z9 hg hb HB Z10 Z11; replace Z2 := ra (Kd.V_below (Kd.V_elderB (vq Z2) Z8 (Nat.le_of_eq hg.symm)) hb); replace Z3 := ra (Kd.V_below (Kd.V_elderB (vq Z3) Z8 (Nat.le_of_eq hg.symm)) hb); clear hg hb) | (go_at_call 48; (with_reducible refine (spec_ProbeSkyOk.calls _ _ _ _ _ _ ?side1 ?side2 Z5.out).mono ?_); (case side1 => exact sv Z2); (case side2 => exact (Kd.V_reads' Z2.out).2.1); rintro e Z12 ⟨rfl, hb⟩; replace Z2 := ra (Kd.V_below (vq Z2) hb); replace Z3 := ra (Kd.V_below (vq Z3) hb); replace Z10 := bb (bk Z10) hb; replace HB := bs hb; clear hb)); go_upto_region 3 with (first | ((with_reducible refine gd 3 rfl ?_); (try (refine gate_guard (by rfl) ?_; dsimp only)); refine bf 3 #[.bool a1_0, .string a1_1, .slice A1_2 l1_2.length c1_2] 55 ?_; intro Z8 Z9 hg hb HB Z10 Z11; replace Z2 := ra (Kd.V_below (Kd.V_elderB (vq Z2) Z8 (Nat.le_of_eq hg.symm)) hb); replace Z3 := ra (Kd.V_below (Kd.V_elderB (vq Z3) Z8 (Nat.le_of_eq hg.symm)) hb); clear hg hb) | (go_at_call 48; (with_reducible refine (spec_ProbeSkyOk.calls _ _ _ _ _ _ ?side1 ?side2 Z5.out).mono ?_); (case side1 => exact sv Z2); (case side2 => exact (Kd.V_reads' Z2.out).2.1); rintro e Z12 ⟨rfl, hb⟩; replace Z2 := ra (Kd.V_below (vq Z2) hb); replace Z3 := ra (Kd.V_below (vq Z3) hb); replace Z10 := bb (bk Z10) hb; replace HB := bs hb; clear hb)))
  (try simp only [Act.put, List.setIfInBounds_toArray, List.set_cons_zero, List.set_cons_succ])
  go_cut [22] (fun v22 wc => ∃ (kq : Nat) (x22_4 : Bool), v22 = .bool x22_4 ∧ Aside0 (spec_ProbeHappen.j0 kq l0 x22_4 a1_0 a1_1 l1_2 = some (r1, r2)) ∧ Aside0 (kq ≤ k) ∧ Aside0 (Kd.V k33 33 wc w.heap.size (fun k_ => ((P0_ k_ ∨ P1_2_ k_) ∨ w.heap.size ≤ k_) ∧ k_ ≠ Z8) (.slice A0 l0.length c0) l0) ∧ Aside0 (Kd.V k46 46 wc w.heap.size (fun k_ => ((P0_ k_ ∨ P1_2_ k_) ∨ w.heap.size ≤ k_) ∧ k_ ≠ Z8) (.slice A1_2 l1_2.length c1_2) l1_2) ∧ Aside0 (wc.heap[Z8]? = some (.cells #[.bool a1_0, .string a1_1, (.slice A1_2 l1_2.length c1_2)] 55 (0, 0))) ∧ Aside0 (Below w.heap.size w wc))
  case first =>
   have H := Z7.out
   clear Z7
   rcases ud H with ⟨rfl, Z13⟩ | ⟨rfl, Z13⟩ <;> have H := Z13
   ·have H' := ra H; clear H
    have Z14 : Z12.cell? ⟨Z8, 0, none⟩ = some (.bool true) := (blk_cell Z10.out 0).trans rfl
    have Z15 : Z12.cell? ⟨Z8, 1, none⟩ = some (.string a1_1) := (blk_cell Z10.out 1).trans rfl
    have Z16 : Z12.cell? ⟨Z8, 2, none⟩ = some (.slice A1_2 l1_2.length c1_2) := (blk_cell Z10.out 2).trans rfl
    have Z17 := blk_frozen Z10.out 0
    have Z18 := blk_frozen Z10.out 1
    have Z19 := blk_frozen Z10.out 2
    go_wp2
    repeat (go_quiet (fail); try go_wp2)
    go_meet
    case rel => exact ⟨_, _, rs, H', ⟨by first | omega | exact Nat.le_refl _⟩, ⟨by (with_reducible repeat (first | apply Kd.V_alloc | apply Kd.V_drewN | apply Kd.V_drew)); exact Z2.out⟩, ⟨by (with_reducible repeat (first | apply Kd.V_alloc | apply Kd.V_drewN | apply Kd.V_drew)); exact Z3.out⟩, ⟨bk Z10⟩, ⟨bq⟩⟩
   ·obtain ⟨Z14, Z15, H⟩ := bo H
    have H' := ra H; clear H
    have Z16 : Z12.cell? ⟨Z8, 0, none⟩ = some (.bool false) := (blk_cell Z10.out 0).trans rfl
    have Z17 : Z12.cell? ⟨Z8, 1, none⟩ = some (.string a1_1) := (blk_cell Z10.out 1).trans rfl
    have Z18 : Z12.cell? ⟨Z8, 2, none⟩ = some (.slice A1_2 l1_2.length c1_2) := (blk_cell Z10.out 2).trans rfl
    have Z19 := blk_frozen Z10.out 0
    have Z20 := blk_frozen Z10.out 1
    have Z21 := blk_frozen Z10.out 2
    go_wp2_with (first | (go_at_call 50; (with_reducible refine (spec_ProbeTubeOk.calls _ _ _ _ _ _ _ ?side1 ?side2 Z15.out).mono ?_); (case side1 => exact sv Z3); (case side2 => exact (Kd.V_reads' Z3.out).2.1); rintro e Z22 ⟨rfl, hb⟩; replace Z2 := ra (Kd.V_below (vq Z2) hb); replace Z3 := ra (Kd.V_below (vq Z3) hb); replace Z10 := bb (bk Z10) hb; replace HB := bs hb; clear hb))
    repeat (go_quiet (first | (go_at_call 50; (with_reducible refine (spec_ProbeTubeOk.calls _ _ _ _ _ _ _ ?side1 ?side2 Z15.out).mono ?_); (case side1 => exact sv Z3); (case side2 => exact (Kd.V_reads' Z3.out).2.1); rintro e Z22 ⟨rfl, hb⟩; replace Z2 := ra (Kd.V_below (vq Z2) hb); replace Z3 := ra (Kd.V_below (vq Z3) hb); replace Z10 := bb (bk Z10) hb; replace HB := bs hb; clear hb)); try go_wp2_with (first | (go_at_call 50; (with_reducible refine (spec_ProbeTubeOk.calls _ _ _ _ _ _ _ ?side1 ?side2 Z15.out).mono ?_); (case side1 => exact sv Z3); (case side2 => exact (Kd.V_reads' Z3.out).2.1); rintro e Z22 ⟨rfl, hb⟩; replace Z2 := ra (Kd.V_below (vq Z2) hb); replace Z3 := ra (Kd.V_below (vq Z3) hb); replace Z10 := bb (bk Z10) hb; replace HB := bs hb; clear hb)))
    go_meet
    case rel => exact ⟨_, _, rs, H', ⟨by first | omega | exact Nat.le_refl _⟩, ⟨by (with_reducible repeat (first | apply Kd.V_alloc | apply Kd.V_drewN | apply Kd.V_drew)); exact Z2.out⟩, ⟨by (with_reducible repeat (first | apply Kd.V_alloc | apply Kd.V_drewN | apply Kd.V_drew)); exact Z3.out⟩, ⟨bk Z10⟩, ⟨bq⟩⟩
  case rest =>
   clear Z7
   obtain ⟨kq, Z13, rfl, HA, Z14, Z15, Z16, Z10, HB⟩ := hcut
   cases kq with
   | zero => exact absurd HA.out (by simp [spec_ProbeHappen.j0])
   | succ Z17 =>
    have H := HA.out
    clear HA
    simp only [spec_ProbeHappen.j0] at H
    rcases ud H with ⟨rfl, Z18⟩ | ⟨rfl, Z18⟩ <;> have H := Z18
    ·obtain ⟨Z19, Z20, H⟩ := bo H
     simp only [Option.some.injEq, Prod.mk.injEq] at H
     obtain ⟨rfl, rfl⟩ := H
     go_wp2_with (first | (go_at_call 69; (with_reducible refine (spec_l2List.calls _ _ _ _ _ _ ?side1 ?side2 Z20.out).mono ?_); (case side1 => exact sv Z15); (case side2 => exact (Kd.V_reads' Z15.out).2.1); rintro e Z21 ⟨Z22, rfl, Z23, hb⟩; have Z24 := ra (Kd.S_lower Z23 (below_size (by repeat (first | (with_reducible first | exact HB.out | apply below_alloc | apply pw_below_drewN | apply below_drew1 | refine below_set ?_ (Aside0.out (by assumption))) | exact HB.out)))); have Z25 := ra (Kd.N_lower (Kd.N_mono (ok' := fun k_ => ((P0_ k_ ∨ P1_2_ k_) ∨ w.heap.size ≤ k_) ∧ k_ ≠ Z8) (Kd.S_N (Kd.S_bound Z23)) (fun k_ hk_ => ⟨(.inr (Nat.le_trans (below_size bq) hk_.2.1)), (Kd.freshB (g := Z8) (o := .cells #[.bool a1_0, .string a1_1, .slice A1_2 l1_2.length c1_2] 55 (0, 0)) (bk Z10) k_ hk_.2.1)⟩)) (below_size bq)); replace Z15 := ra (Kd.V_elder' (vq Z15) (Kd.S_base Z23) hb); replace Z16 := ra (Kd.V_elder' (vq Z16) (Kd.S_base Z23) hb); replace Z10 := bb (bk Z10) hb; replace HB := bs hb; clear hb Z23))
     repeat (go_quiet (first | (go_at_call 69; (with_reducible refine (spec_l2List.calls _ _ _ _ _ _ ?side1 ?side2 Z20.out).mono ?_); (case side1 => exact sv Z15); (case side2 => exact (Kd.V_reads' Z15.out).2.1); rintro e Z21 ⟨Z22, rfl, Z23, hb⟩; have Z24 := ra (Kd.S_lower Z23 (below_size (by repeat (first | (with_reducible first | exact HB.out | apply below_alloc | apply pw_below_drewN | apply below_drew1 | refine below_set ?_ (Aside0.out (by assumption))) | exact HB.out)))); have Z25 := ra (Kd.N_lower (Kd.N_mono (ok' := fun k_ => ((P0_ k_ ∨ P1_2_ k_) ∨ w.heap.size ≤ k_) ∧ k_ ≠ Z8) (Kd.S_N (Kd.S_bound Z23)) (fun k_ hk_ => ⟨(.inr (Nat.le_trans (below_size bq) hk_.2.1)), (Kd.freshB (g := Z8) (o := .cells #[.bool a1_0, .string a1_1, .slice A1_2 l1_2.length c1_2] 55 (0, 0)) (bk Z10) k_ hk_.2.1)⟩)) (below_size bq)); replace Z15 := ra (Kd.V_elder' (vq Z15) (Kd.S_base Z23) hb); replace Z16 := ra (Kd.V_elder' (vq Z16) (Kd.S_base Z23) hb); replace Z10 := bb (bk Z10) hb; replace HB := bs hb; clear hb Z23)); try go_wp2_with (first | (go_at_call 69; (with_reducible refine (spec_l2List.calls _ _ _ _ _ _ ?side1 ?side2 Z20.out).mono ?_); (case side1 => exact sv Z15); (case side2 => exact (Kd.V_reads' Z15.out).2.1); rintro e Z21 ⟨Z22, rfl, Z23, hb⟩; have Z24 := ra (Kd.S_lower Z23 (below_size (by repeat (first | (with_reducible first | exact HB.out | apply below_alloc | apply pw_below_drewN | apply below_drew1 | refine below_set ?_ (Aside0.out (by assumption))) | exact HB.out)))); have Z25 := ra (Kd.N_lower (Kd.N_mono (ok' := fun k_ => ((P0_ k_ ∨ P1_2_ k_) ∨ w.heap.size ≤ k_) ∧ k_ ≠ Z8) (Kd.S_N (Kd.S_bound Z23)) (fun k_ hk_ => ⟨(.inr (Nat.le_trans (below_size bq) hk_.2.1)), (Kd.freshB (g := Z8) (o := .cells #[.bool a1_0, .string a1_1, .slice A1_2 l1_2.length c1_2] 55 (0, 0)) (bk Z10) k_ hk_.2.1)⟩)) (below_size bq)); replace Z15 := ra (Kd.V_elder' (vq Z15) (Kd.S_base Z23) hb); replace Z16 := ra (Kd.V_elder' (vq Z16) (Kd.S_base Z23) hb); replace Z10 := bb (bk Z10) hb; replace HB := bs hb; clear hb Z23)))
     go_ret2
     exact ⟨_, re, by (with_reducible repeat (first | apply Kd.S_alloc | apply Kd.S_drewN | apply Kd.S_drew)); exact Z24.out, bq⟩
    ·obtain ⟨Z19, Z20, H⟩ := bo H
     have Z21 := ra H; clear H
     have Z22 : wc.cell? ⟨Z8, 0, none⟩ = some (.bool a1_0) := (blk_cell Z10.out 0).trans rfl
     have Z23 : wc.cell? ⟨Z8, 1, none⟩ = some (.string a1_1) := (blk_cell Z10.out 1).trans rfl
     have Z24 : wc.cell? ⟨Z8, 2, none⟩ = some (.slice A1_2 l1_2.length c1_2) := (blk_cell Z10.out 2).trans rfl
     have Z25 := blk_frozen Z10.out 0
     have Z26 := blk_frozen Z10.out 1
     have Z27 := blk_frozen Z10.out 2
     go_upto_region 6 with (first | (go_at_call 52; (with_reducible refine (spec_l6At.calls _ _ _ _ _ _ _ ?side1 ?side2 Z20.out).mono ?_); (case side1 => exact sv Z15); (case side2 => exact (Kd.V_reads' Z15.out).2.1); rintro e w' ⟨rfl, ⟨nd, rfl⟩⟩; (try first | exact ⟨rfl, _, World.drewN_drewN _ _ _⟩ | exact ⟨rfl, _, Eq.trans (World.drewN_drewN _ _ _) (congrArg (World.drewN _) (Nat.add_assoc _ _ _))⟩)))
     repeat (go_quiet (first | (go_at_call 52; (with_reducible refine (spec_l6At.calls _ _ _ _ _ _ _ ?side1 ?side2 Z20.out).mono ?_); (case side1 => exact sv Z15); (case side2 => exact (Kd.V_reads' Z15.out).2.1); rintro e w' ⟨rfl, ⟨nd, rfl⟩⟩; (try first | exact ⟨rfl, _, World.drewN_drewN _ _ _⟩ | exact ⟨rfl, _, Eq.trans (World.drewN_drewN _ _ _) (congrArg (World.drewN _) (Nat.add_assoc _ _ _))⟩))); go_upto_region 6 with (first | (go_at_call 52; (with_reducible refine (spec_l6At.calls _ _ _ _ _ _ _ ?side1 ?side2 Z20.out).mono ?_); (case side1 => exact sv Z15); (case side2 => exact (Kd.V_reads' Z15.out).2.1); rintro e w' ⟨rfl, ⟨nd, rfl⟩⟩; (try first | exact ⟨rfl, _, World.drewN_drewN _ _ _⟩ | exact ⟨rfl, _, Eq.trans (World.drewN_drewN _ _ _) (congrArg (World.drewN _) (Nat.add_assoc _ _ _))⟩))))
     (try simp only [Act.put, List.setIfInBounds_toArray, List.set_cons_zero, List.set_cons_succ])
     go_cut [35] (fun v35 wc => ∃ (kq : Nat) (x35_16 : Bool), v35 = .bool x35_16 ∧ Aside0 (spec_ProbeHappen.j1 kq l0 Z19 x35_16 a1_0 a1_1 l1_2 = some (r1, r2)) ∧ Aside0 (kq ≤ Z17) ∧ Aside0 (Kd.V k33 33 wc w.heap.size (fun k_ => ((P0_ k_ ∨ P1_2_ k_) ∨ w.heap.size ≤ k_) ∧ k_ ≠ Z8) (.slice A0 l0.length c0) l0) ∧ Aside0 (Kd.V k46 46 wc w.heap.size (fun k_ => ((P0_ k_ ∨ P1_2_ k_) ∨ w.heap.size ≤ k_) ∧ k_ ≠ Z8) (.slice A1_2 l1_2.length c1_2) l1_2) ∧ Aside0 (wc.heap[Z8]? = some (.cells #[.bool a1_0, .string a1_1, (.slice A1_2 l1_2.length c1_2)] 55 (0, 0))) ∧ Aside0 (Below w.heap.size w wc))
     case first =>
      have H := Z21.out
      clear Z21
      rcases ud H with ⟨rfl, Z28⟩ | ⟨rfl, Z28⟩ <;> have H := Z28
      have H' := ra H; clear H
      have Z29 : wc.cell? ⟨Z8, 0, none⟩ = some (.bool true) := (blk_cell Z10.out 0).trans rfl
      rotate_left
      have H' := ra H; clear H
      have Z29 : wc.cell? ⟨Z8, 0, none⟩ = some (.bool false) := (blk_cell Z10.out 0).trans rfl
      rotate_left
      all_goals
       have Z30 : wc.cell? ⟨Z8, 1, none⟩ = some (.string a1_1) := (blk_cell Z10.out 1).trans rfl
       have Z31 : wc.cell? ⟨Z8, 2, none⟩ = some (.slice A1_2 l1_2.length c1_2) := (blk_cell Z10.out 2).trans rfl
       have Z32 := blk_frozen Z10.out 0
       have Z33 := blk_frozen Z10.out 1
       have Z34 := blk_frozen Z10.out 2
       go_wp2
       repeat (go_quiet (fail); try go_wp2)
       go_meet
       case rel => exact ⟨_, _, rs, H', ⟨by have := Z14.out; first | omega | exact Nat.le_refl _⟩, ⟨by (with_reducible repeat (first | apply Kd.V_alloc | apply Kd.V_drewN | apply Kd.V_drew)); exact Z15.out⟩, ⟨by (with_reducible repeat (first | apply Kd.V_alloc | apply Kd.V_drewN | apply Kd.V_drew)); exact Z16.out⟩, ⟨bk Z10⟩, ⟨bq⟩⟩
     case rest =>
      clear Z21
      try clear Z22
      try clear Z23
      try clear Z24
      try clear Z25
      try clear Z26
      try clear Z27
      obtain ⟨kq, Z28, rfl, HA, Z29, Z15, Z16, Z10, HB⟩ := hcut
      cases kq with
      | zero => exact absurd HA.out (by simp [spec_ProbeHappen.j1])
      | succ Z30 =>
       have H := HA.out
       clear HA
       simp only [spec_ProbeHappen.j1] at H
       rcases ud H with ⟨rfl, Z31⟩ | ⟨rfl, Z31⟩ <;> have H := Z31
       ·obtain ⟨Z32, Z33, H⟩ := bo H
        simp only [Option.some.injEq, Prod.mk.injEq] at H
        obtain ⟨rfl, rfl⟩ := H
        go_wp2_with (first | (go_at_call 69; (with_reducible refine (spec_l2List.calls _ _ _ _ _ _ ?side1 ?side2 Z33.out).mono ?_); (case side1 => exact sv Z15); (case side2 => exact (Kd.V_reads' Z15.out).2.1); rintro e Z34 ⟨Z35, rfl, Z36, hb⟩; have Z37 := ra (Kd.S_lower Z36 (below_size (by repeat (first | (with_reducible first | exact HB.out | apply below_alloc | apply pw_below_drewN | apply below_drew1 | refine below_set ?_ (Aside0.out (by assumption))) | exact HB.out)))); have Z38 := ra (Kd.N_lower (Kd.N_mono (ok' := fun k_ => ((P0_ k_ ∨ P1_2_ k_) ∨ w.heap.size ≤ k_) ∧ k_ ≠ Z8) (Kd.S_N (Kd.S_bound Z36)) (fun k_ hk_ => ⟨(.inr (Nat.le_trans (below_size bq) hk_.2.1)), (Kd.freshB (g := Z8) (o := .cells #[.bool a1_0, .string a1_1, .slice A1_2 l1_2.length c1_2] 55 (0, 0)) (bk Z10) k_ hk_.2.1)⟩)) (below_size bq)); replace Z15 := ra (Kd.V_elder' (vq Z15) (Kd.S_base Z36) hb); replace Z16 := ra (Kd.V_elder' (vq Z16) (Kd.S_base Z36) hb); replace Z10 := bb (bk Z10) hb; replace HB := bs hb; clear hb Z36))
        repeat (go_quiet (first | (go_at_call 69; (with_reducible refine (spec_l2List.calls _ _ _ _ _ _ ?side1 ?side2 Z33.out).mono ?_); (case side1 => exact sv Z15); (case side2 => exact (Kd.V_reads' Z15.out).2.1); rintro e Z34 ⟨Z35, rfl, Z36, hb⟩; have Z37 := ra (Kd.S_lower Z36 (below_size (by repeat (first | (with_reducible first | exact HB.out | apply below_alloc | apply pw_below_drewN | apply below_drew1 | refine below_set ?_ (Aside0.out (by assumption))) | exact HB.out)))); have Z38 := ra (Kd.N_lower (Kd.N_mono (ok' := fun k_ => ((P0_ k_ ∨ P1_2_ k_) ∨ w.heap.size ≤ k_) ∧ k_ ≠ Z8) (Kd.S_N (Kd.S_bound Z36)) (fun k_ hk_ => ⟨(.inr (Nat.le_trans (below_size bq) hk_.2.1)), (Kd.freshB (g := Z8) (o := .cells #[.bool a1_0, .string a1_1, .slice A1_2 l1_2.length c1_2] 55 (0, 0)) (bk Z10) k_ hk_.2.1)⟩)) (below_size bq)); replace Z15 := ra (Kd.V_elder' (vq Z15) (Kd.S_base Z36) hb); replace Z16 := ra (Kd.V_elder' (vq Z16) (Kd.S_base Z36) hb); replace Z10 := bb (bk Z10) hb; replace HB := bs hb; clear hb Z36)); try go_wp2_with (first | (go_at_call 69; (with_reducible refine (spec_l2List.calls _ _ _ _ _ _ ?side1 ?side2 Z33.out).mono ?_); (case side1 => exact sv Z15); (case side2 => exact (Kd.V_reads' Z15.out).2.1); rintro e Z34 ⟨Z35, rfl, Z36, hb⟩; have Z37 := ra (Kd.S_lower Z36 (below_size (by repeat (first | (with_reducible first | exact HB.out | apply below_alloc | apply pw_below_drewN | apply below_drew1 | refine below_set ?_ (Aside0.out (by assumption))) | exact HB.out)))); have Z38 := ra (Kd.N_lower (Kd.N_mono (ok' := fun k_ => ((P0_ k_ ∨ P1_2_ k_) ∨ w.heap.size ≤ k_) ∧ k_ ≠ Z8) (Kd.S_N (Kd.S_bound Z36)) (fun k_ hk_ => ⟨(.inr (Nat.le_trans (below_size bq) hk_.2.1)), (Kd.freshB (g := Z8) (o := .cells #[.bool a1_0, .string a1_1, .slice A1_2 l1_2.length c1_2] 55 (0, 0)) (bk Z10) k_ hk_.2.1)⟩)) (below_size bq)); replace Z15 := ra (Kd.V_elder' (vq Z15) (Kd.S_base Z36) hb); replace Z16 := ra (Kd.V_elder' (vq Z16) (Kd.S_base Z36) hb); replace Z10 := bb (bk Z10) hb; replace HB := bs hb; clear hb Z36)))
        go_ret2
        exact ⟨_, re, by (with_reducible repeat (first | apply Kd.S_alloc | apply Kd.S_drewN | apply Kd.S_drew)); exact Z37.out, bq⟩
       ·have Z32 := ra H; clear H
        go_upto_region 8 with (fail)
        repeat (go_quiet (fail); go_upto_region 8 with (fail))
        go_cut [49] (fun v49 wc => ∃ (kq : Nat) (x49_24 : Bool), v49 = .bool x49_24 ∧ Aside0 (spec_ProbeHappen.j2 kq l0 Z19 x49_24 a1_0 a1_1 l1_2 = some (r1, r2)) ∧ Aside0 (kq ≤ Z30) ∧ Aside0 (Kd.V k33 33 wc w.heap.size (fun k_ => ((P0_ k_ ∨ P1_2_ k_) ∨ w.heap.size ≤ k_) ∧ k_ ≠ Z8) (.slice A0 l0.length c0) l0) ∧ Aside0 (Kd.V k46 46 wc w.heap.size (fun k_ => ((P0_ k_ ∨ P1_2_ k_) ∨ w.heap.size ≤ k_) ∧ k_ ≠ Z8) (.slice A1_2 l1_2.length c1_2) l1_2) ∧ Aside0 (wc.heap[Z8]? = some (.cells #[.bool a1_0, .string a1_1, (.slice A1_2 l1_2.length c1_2)] 55 (0, 0))) ∧ Aside0 (Below w.heap.size w wc))
        case first =>
         have H := Z32.out
         clear Z32
         rcases ud H with ⟨rfl, Z33⟩ | ⟨rfl, Z33⟩ <;> have H := Z33
         have H' := ra H; clear H
         have Z34 : wc.cell? ⟨Z8, 0, none⟩ = some (.bool true) := (blk_cell Z10.out 0).trans rfl
         rotate_left
         rcases td H with ⟨Z34, H⟩ | ⟨Z34, H⟩
         (first | rw [Z34] | (simp only [i64_w, i32_w]; rw [Z34]) | skip)
         have H' := ra H; clear H
         have Z35 : wc.cell? ⟨Z8, 0, none⟩ = some (.bool false) := (blk_cell Z10.out 0).trans rfl
         rotate_left
         (first | rw [Z34] | (simp only [i64_w, i32_w]; rw [Z34]) | skip)
         have H' := ra H; clear H
         have Z35 : wc.cell? ⟨Z8, 0, none⟩ = some (.bool false) := (blk_cell Z10.out 0).trans rfl
         rotate_left
         all_goals
          have Z35 : wc.cell? ⟨Z8, 1, none⟩ = some (.string a1_1) := (blk_cell Z10.out 1).trans rfl
          have Z36 : wc.cell? ⟨Z8, 2, none⟩ = some (.slice A1_2 l1_2.length c1_2) := (blk_cell Z10.out 2).trans rfl
          have Z37 := blk_frozen Z10.out 0
          have Z38 := blk_frozen Z10.out 1
          have Z39 := blk_frozen Z10.out 2
          go_wp2
          repeat (go_quiet (fail); try go_wp2)
          go_meet
          case rel => exact ⟨_, _, rs, H', ⟨by have := Z14.out; have := Z29.out; first | omega | exact Nat.le_refl _⟩, ⟨by (with_reducible repeat (first | apply Kd.V_alloc | apply Kd.V_drewN | apply Kd.V_drew)); exact Z15.out⟩, ⟨by (with_reducible repeat (first | apply Kd.V_alloc | apply Kd.V_drewN | apply Kd.V_drew)); exact Z16.out⟩, ⟨bk Z10⟩, ⟨bq⟩⟩
        case rest =>
         clear Z32
         try clear Z22
         try clear Z23
         try clear Z24
         try clear Z25
         try clear Z26
         try clear Z27
         obtain ⟨kq, Z33, rfl, HA, Z34, Z15, Z16, Z10, HB⟩ := hcut
         cases kq with
         | zero => exact absurd HA.out (by simp [spec_ProbeHappen.j2])
         | succ Z35 =>
          have H := HA.out
          clear HA
          simp only [spec_ProbeHappen.j2] at H
          rcases ud H with ⟨rfl, Z36⟩ | ⟨rfl, Z36⟩ <;> have H := Z36
          ·obtain ⟨Z37, Z38, H⟩ := bo H
           simp only [Option.some.injEq, Prod.mk.injEq] at H
           obtain ⟨rfl, rfl⟩ := H
           go_wp2_with (first | (go_at_call 69; (with_reducible refine (spec_l2List.calls _ _ _ _ _ _ ?side1 ?side2 Z38.out).mono ?_); (case side1 => exact sv Z15); (case side2 => exact (Kd.V_reads' Z15.out).2.1); rintro e Z39 ⟨Z40, rfl, Z41, hb⟩; have Z42 := ra (Kd.S_lower Z41 (below_size (by repeat (first | (with_reducible first | exact HB.out | apply below_alloc | apply pw_below_drewN | apply below_drew1 | refine below_set ?_ (Aside0.out (by assumption))) | exact HB.out)))); have Z43 := ra (Kd.N_lower (Kd.N_mono (ok' := fun k_ => ((P0_ k_ ∨ P1_2_ k_) ∨ w.heap.size ≤ k_) ∧ k_ ≠ Z8) (Kd.S_N (Kd.S_bound Z41)) (fun k_ hk_ => ⟨(.inr (Nat.le_trans (below_size bq) hk_.2.1)), (Kd.freshB (g := Z8) (o := .cells #[.bool a1_0, .string a1_1, .slice A1_2 l1_2.length c1_2] 55 (0, 0)) (bk Z10) k_ hk_.2.1)⟩)) (below_size bq)); replace Z15 := ra (Kd.V_elder' (vq Z15) (Kd.S_base Z41) hb); replace Z16 := ra (Kd.V_elder' (vq Z16) (Kd.S_base Z41) hb); replace Z10 := bb (bk Z10) hb; replace HB := bs hb; clear hb Z41))
           repeat (go_quiet (first | (go_at_call 69; (with_reducible refine (spec_l2List.calls _ _ _ _ _ _ ?side1 ?side2 Z38.out).mono ?_); (case side1 => exact sv Z15); (case side2 => exact (Kd.V_reads' Z15.out).2.1); rintro e Z39 ⟨Z40, rfl, Z41, hb⟩; have Z42 := ra (Kd.S_lower Z41 (below_size (by repeat (first | (with_reducible first | exact HB.out | apply below_alloc | apply pw_below_drewN | apply below_drew1 | refine below_set ?_ (Aside0.out (by assumption))) | exact HB.out)))); have Z43 := ra (Kd.N_lower (Kd.N_mono (ok' := fun k_ => ((P0_ k_ ∨ P1_2_ k_) ∨ w.heap.size ≤ k_) ∧ k_ ≠ Z8) (Kd.S_N (Kd.S_bound Z41)) (fun k_ hk_ => ⟨(.inr (Nat.le_trans (below_size bq) hk_.2.1)), (Kd.freshB (g := Z8) (o := .cells #[.bool a1_0, .string a1_1, .slice A1_2 l1_2.length c1_2] 55 (0, 0)) (bk Z10) k_ hk_.2.1)⟩)) (below_size bq)); replace Z15 := ra (Kd.V_elder' (vq Z15) (Kd.S_base Z41) hb); replace Z16 := ra (Kd.V_elder' (vq Z16) (Kd.S_base Z41) hb); replace Z10 := bb (bk Z10) hb; replace HB := bs hb; clear hb Z41)); try go_wp2_with (first | (go_at_call 69; (with_reducible refine (spec_l2List.calls _ _ _ _ _ _ ?side1 ?side2 Z38.out).mono ?_); (case side1 => exact sv Z15); (case side2 => exact (Kd.V_reads' Z15.out).2.1); rintro e Z39 ⟨Z40, rfl, Z41, hb⟩; have Z42 := ra (Kd.S_lower Z41 (below_size (by repeat (first | (with_reducible first | exact HB.out | apply below_alloc | apply pw_below_drewN | apply below_drew1 | refine below_set ?_ (Aside0.out (by assumption))) | exact HB.out)))); have Z43 := ra (Kd.N_lower (Kd.N_mono (ok' := fun k_ => ((P0_ k_ ∨ P1_2_ k_) ∨ w.heap.size ≤ k_) ∧ k_ ≠ Z8) (Kd.S_N (Kd.S_bound Z41)) (fun k_ hk_ => ⟨(.inr (Nat.le_trans (below_size bq) hk_.2.1)), (Kd.freshB (g := Z8) (o := .cells #[.bool a1_0, .string a1_1, .slice A1_2 l1_2.length c1_2] 55 (0, 0)) (bk Z10) k_ hk_.2.1)⟩)) (below_size bq)); replace Z15 := ra (Kd.V_elder' (vq Z15) (Kd.S_base Z41) hb); replace Z16 := ra (Kd.V_elder' (vq Z16) (Kd.S_base Z41) hb); replace Z10 := bb (bk Z10) hb; replace HB := bs hb; clear hb Z41)))
           go_ret2
           exact ⟨_, re, by (with_reducible repeat (first | apply Kd.S_alloc | apply Kd.S_drewN | apply Kd.S_drew)); exact Z42.out, bq⟩
          ·obtain ⟨Z37, hy_⟩ : ∃ y_ : List (S33), y_ = (([] : List (S33))) := ⟨_, rfl⟩
           replace H : (spec_ProbeHappen.l0 Z35 l0 Z19 Z37 a1_0 0 a1_0 a1_1 l1_2) = some (r1, r2) := yh
           have Z38 := ra hy_
           clear hy_
           have H' := ra H; clear H
           go_wp2_with (first | ((with_reducible refine gd 52 rfl ?_); (try (refine gate_guard (by rfl) ?_; dsimp only)); refine Kd.N_lit k33 _ 33 ?hg (N' := 52) ?hd (xs := ([] : List (S33))) (inner := []) (ok := (fun k_ => ((P0_ k_ ∨ P1_2_ k_) ∨ w.heap.size ≤ k_) ∧ k_ ≠ Z8)) (okp := (fun k_ => ((P0_ k_ ∨ P1_2_ k_) ∨ w.heap.size ≤ k_) ∧ k_ ≠ Z8)) ?hr ?hp (fun _ hk => hk) ((show ∀ k_, wc.heap.size ≤ k_ → (fun k_ => ((P0_ k_ ∨ P1_2_ k_) ∨ w.heap.size ≤ k_) ∧ k_ ≠ Z8) k_ from fun k_ hk => ⟨(.inr (Nat.le_trans (below_size bq) hk)), Kd.freshB (g := Z8) (o := .cells #[.bool a1_0, .string a1_1, .slice A1_2 l1_2.length c1_2] 55 (0, 0)) (bk Z10) k_ hk⟩) _ (Nat.le_refl _)) (Below.refl _ _) (Nat.le_refl _) (by simp) ?_; (case hd => rfl); (case hg => rfl); (case hr => first | (go_simp; done) | (go_simp; rfl)); (case hp => exact (Reps.none _ _)); intro Z39 Z40 Z41 hb hg_ hnew_; clear hg_ hnew_; (first | rw [← Z38.out] at Z41 | (simp only [Int.reduceToNat] at Z41; rw [← Z38.out] at Z41)); have Z42 := ra (Kd.N_lower Z41 (below_size bq)); replace Z15 := ra (Kd.V_elder' (vq Z15) (Kd.N_base Z41) hb); replace Z16 := ra (Kd.V_elder' (vq Z16) (Kd.N_base Z41) hb); replace Z10 := bb (bk Z10) hb; replace HB := bs hb; clear hb Z41; have Z43 : Z40.cell? ⟨Z8, 0, none⟩ = some (.bool a1_0) := (blk_cell Z10.out 0).trans rfl; have Z44 : Z40.cell? ⟨Z8, 1, none⟩ = some (.string a1_1) := (blk_cell Z10.out 1).trans rfl; have Z45 : Z40.cell? ⟨Z8, 2, none⟩ = some (.slice A1_2 l1_2.length c1_2) := (blk_cell Z10.out 2).trans rfl; have Z46 := blk_frozen Z10.out 0; have Z47 := blk_frozen Z10.out 1; have Z48 := blk_frozen Z10.out 2))
           repeat (go_quiet (first | ((with_reducible refine gd 52 rfl ?_); (try (refine gate_guard (by rfl) ?_; dsimp only)); refine Kd.N_lit k33 _ 33 ?hg (N' := 52) ?hd (xs := ([] : List (S33))) (inner := []) (ok := (fun k_ => ((P0_ k_ ∨ P1_2_ k_) ∨ w.heap.size ≤ k_) ∧ k_ ≠ Z8)) (okp := (fun k_ => ((P0_ k_ ∨ P1_2_ k_) ∨ w.heap.size ≤ k_) ∧ k_ ≠ Z8)) ?hr ?hp (fun _ hk => hk) ((show ∀ k_, wc.heap.size ≤ k_ → (fun k_ => ((P0_ k_ ∨ P1_2_ k_) ∨ w.heap.size ≤ k_) ∧ k_ ≠ Z8) k_ from fun k_ hk => ⟨(.inr (Nat.le_trans (below_size bq) hk)), Kd.freshB (g := Z8) (o := .cells #[.bool a1_0, .string a1_1, .slice A1_2 l1_2.length c1_2] 55 (0, 0)) (bk Z10) k_ hk⟩) _ (Nat.le_refl _)) (Below.refl _ _) (Nat.le_refl _) (by simp) ?_; (case hd => rfl); (case hg => rfl); (case hr => first | (go_simp; done) | (go_simp; rfl)); (case hp => exact (Reps.none _ _)); intro Z39 Z40 Z41 hb hg_ hnew_; clear hg_ hnew_; (first | rw [← Z38.out] at Z41 | (simp only [Int.reduceToNat] at Z41; rw [← Z38.out] at Z41)); have Z42 := ra (Kd.N_lower Z41 (below_size bq)); replace Z15 := ra (Kd.V_elder' (vq Z15) (Kd.N_base Z41) hb); replace Z16 := ra (Kd.V_elder' (vq Z16) (Kd.N_base Z41) hb); replace Z10 := bb (bk Z10) hb; replace HB := bs hb; clear hb Z41; have Z43 : Z40.cell? ⟨Z8, 0, none⟩ = some (.bool a1_0) := (blk_cell Z10.out 0).trans rfl; have Z44 : Z40.cell? ⟨Z8, 1, none⟩ = some (.string a1_1) := (blk_cell Z10.out 1).trans rfl; have Z45 : Z40.cell? ⟨Z8, 2, none⟩ = some (.slice A1_2 l1_2.length c1_2) := (blk_cell Z10.out 2).trans rfl; have Z46 := blk_frozen Z10.out 0; have Z47 := blk_frozen Z10.out 1; have Z48 := blk_frozen Z10.out 2)); try go_wp2_with (first | ((with_reducible refine gd 52 rfl ?_); (try (refine gate_guard (by rfl) ?_; dsimp only)); refine Kd.N_lit k33 _ 33 ?hg (N' := 52) ?hd (xs := ([] : List (S33))) (inner := []) (ok := (fun k_ => ((P0_ k_ ∨ P1_2_ k_) ∨ w.heap.size ≤ k_) ∧ k_ ≠ Z8)) (okp := (fun k_ => ((P0_ k_ ∨ P1_2_ k_) ∨ w.heap.size ≤ k_) ∧ k_ ≠ Z8)) ?hr ?hp (fun _ hk => hk) ((show ∀ k_, wc.heap.size ≤ k_ → (fun k_ => ((P0_ k_ ∨ P1_2_ k_) ∨ w.heap.size ≤ k_) ∧ k_ ≠ Z8) k_ from fun k_ hk => ⟨(.inr (Nat.le_trans (below_size bq) hk)), Kd.freshB (g := Z8) (o := .cells #[.bool a1_0, .string a1_1, .slice A1_2 l1_2.length c1_2] 55 (0, 0)) (bk Z10) k_ hk⟩) _ (Nat.le_refl _)) (Below.refl _ _) (Nat.le_refl _) (by simp) ?_; (case hd => rfl); (case hg => rfl); (case hr => first | (go_simp; done) | (go_simp; rfl)); (case hp => exact (Reps.none _ _)); intro Z39 Z40 Z41 hb hg_ hnew_; clear hg_ hnew_; (first | rw [← Z38.out] at Z41 | (simp only [Int.reduceToNat] at Z41; rw [← Z38.out] at Z41)); have Z42 := ra (Kd.N_lower Z41 (below_size bq)); replace Z15 := ra (Kd.V_elder' (vq Z15) (Kd.N_base Z41) hb); replace Z16 := ra (Kd.V_elder' (vq Z16) (Kd.N_base Z41) hb); replace Z10 := bb (bk Z10) hb; replace HB := bs hb; clear hb Z41; have Z43 : Z40.cell? ⟨Z8, 0, none⟩ = some (.bool a1_0) := (blk_cell Z10.out 0).trans rfl; have Z44 : Z40.cell? ⟨Z8, 1, none⟩ = some (.string a1_1) := (blk_cell Z10.out 1).trans rfl; have Z45 : Z40.cell? ⟨Z8, 2, none⟩ = some (.slice A1_2 l1_2.length c1_2) := (blk_cell Z10.out 2).trans rfl; have Z46 := blk_frozen Z10.out 0; have Z47 := blk_frozen Z10.out 1; have Z48 := blk_frozen Z10.out 2)))
           go_loopg [7, 8, 9] Z35 (fun kq v7 v8 v9 w' => ∃ (x7_4 : List (S33)) (x8_4 : Bool) (x9_4 : Int), v8 = .bool x8_4 ∧ v9 = .int .i64 x9_4 ∧ Aside0 (spec_ProbeHappen.l0 kq l0 Z19 x7_4 x8_4 x9_4 a1_0 a1_1 l1_2 = some (r1, r2)) ∧ Aside0 (kq ≤ Z35) ∧ Aside0 (Kd.V k33 33 w' w.heap.size (fun k_ => ((P0_ k_ ∨ P1_2_ k_) ∨ w.heap.size ≤ k_) ∧ some k_ ≠ (v7 : Value).ownBlock ∧ k_ ≠ Z8) (.slice A0 l0.length c0) l0) ∧ Aside0 (Kd.N k33 33 w' w.heap.size (fun k_ => ((P0_ k_ ∨ P1_2_ k_) ∨ w.heap.size ≤ k_) ∧ k_ ≠ Z8) v7 x7_4) ∧ Aside0 (Kd.V k46 46 w' w.heap.size (fun k_ => ((P0_ k_ ∨ P1_2_ k_) ∨ w.heap.size ≤ k_) ∧ some k_ ≠ (v7 : Value).ownBlock ∧ k_ ≠ Z8) (.slice A1_2 l1_2.length c1_2) l1_2) ∧ Aside0 (w'.heap[Z8]? = some (.cells #[.bool a1_0, .string a1_1, (.slice A1_2 l1_2.length c1_2)] 55 (0, 0))) ∧ Aside0 (Below w.heap.size w w'))
           case atStart => exact ⟨(Z37), (a1_0), (0), rs, rs, H', ⟨Nat.le_refl _⟩, ⟨by (with_reducible repeat (first | apply Kd.V_alloc | apply Kd.V_drewN | apply Kd.V_drew)); exact Kd.V_mono Z15.out (fun _ hk => ⟨hk.1.1, ⟨hk.2, hk.1.2⟩⟩)⟩, ⟨by (with_reducible repeat (first | apply Kd.N_alloc | apply Kd.N_drewN | apply Kd.N_drew)); exact Z42.out⟩, ⟨by (with_reducible repeat (first | apply Kd.V_alloc | apply Kd.V_drewN | apply Kd.V_drew)); exact Kd.V_mono Z16.out (fun _ hk => ⟨hk.1.1, ⟨hk.2, hk.1.2⟩⟩)⟩, ⟨bk Z10⟩, ⟨bq⟩⟩
           case round =>
            clear H'
            try clear Z22
            try clear Z23
            try clear Z24
            try clear Z43
            try clear Z44
            try clear Z45
            try clear Z25
            try clear Z26
            try clear Z27
            try clear Z46
            try clear Z47
            try clear Z48
            obtain ⟨Z49, Z50, Z51, rfl, rfl, HA, Z52, Z15, Z53, Z16, Z10, HB⟩ := hrel
            cases gk with
            | zero => exact absurd HA.out (by simp [spec_ProbeHappen.l0])
            | succ Z54 =>
             have H := HA.out
             clear HA
             simp only [spec_ProbeHappen.l0] at H
             rcases td H with ⟨Z55, H⟩ | ⟨Z55, H⟩
             ·have Z56 := ra H; clear H
              go_upto_region 15 with (fail)
              repeat (go_quiet (fail); go_upto_region 15 with (fail))
              go_cut [73] (fun v73 wc => ∃ (kq : Nat) (x73_37 : Bool), v73 = .bool x73_37 ∧ Aside0 (spec_ProbeHappen.j4 kq l0 Z19 Z49 Z50 Z51 x73_37 a1_0 a1_1 l1_2 = some (r1, r2)) ∧ Aside0 (kq ≤ Z54) ∧ Aside0 (Kd.V k33 33 wc w.heap.size (fun k_ => ((P0_ k_ ∨ P1_2_ k_) ∨ w.heap.size ≤ k_) ∧ some k_ ≠ (u7 : Value).ownBlock ∧ k_ ≠ Z8) (.slice A0 l0.length c0) l0) ∧ Aside0 (Kd.N k33 33 wc w.heap.size (fun k_ => ((P0_ k_ ∨ P1_2_ k_) ∨ w.heap.size ≤ k_) ∧ k_ ≠ Z8) u7 Z49) ∧ Aside0 (Kd.V k46 46 wc w.heap.size (fun k_ => ((P0_ k_ ∨ P1_2_ k_) ∨ w.heap.size ≤ k_) ∧ some k_ ≠ (u7 : Value).ownBlock ∧ k_ ≠ Z8) (.slice A1_2 l1_2.length c1_2) l1_2) ∧ Aside0 (wc.heap[Z8]? = some (.cells #[.bool a1_0, .string a1_1, (.slice A1_2 l1_2.length c1_2)] 55 (0, 0))) ∧ Aside0 (Below w.heap.size w wc))
              case first =>
               have H := Z56.out
               clear Z56
               rcases ud H with ⟨rfl, Z57⟩ | ⟨rfl, Z57⟩ <;> have H := Z57
               ·have H' := ra H; clear H
                go_wp2
                repeat (go_quiet (fail); try go_wp2)
                go_meet
                case rel => exact ⟨_, _, rs, H', ⟨by have := Z14.out; have := Z29.out; have := Z34.out; have := Z52.out; first | omega | exact Nat.le_refl _⟩, ⟨by (with_reducible repeat (first | apply Kd.V_alloc | apply Kd.V_drewN | apply Kd.V_drew)); exact Z15.out⟩, ⟨by (with_reducible repeat (first | apply Kd.N_alloc | apply Kd.N_drewN | apply Kd.N_drew)); exact Z53.out⟩, ⟨by (with_reducible repeat (first | apply Kd.V_alloc | apply Kd.V_drewN | apply Kd.V_drew)); exact Z16.out⟩, ⟨bk Z10⟩, ⟨bq⟩⟩
               ·obtain ⟨Z58, H⟩ := tn H
                (first | rw [Z58] | (simp only [i64_w, i32_w]; rw [Z58]) | skip)
                have H' := ra H; clear H
                have Z59 : 0 ≤ (Z51 : Int) := od
                have Z60 : Z51 < (l0.length : Int) := od
                obtain ⟨Z61, Z62, Z63, Z64, Z65, Z66, Z67, Z68⟩ := at_T33 (Kd.V_reads' Z15.out).2.2 Z51 Z59 Z60
                cases Z64
                obtain ⟨Z69, Z70, Z71, Z72⟩ := Kd.V_get Z15.out z33 Z51 Z59 (by first | exact Z60 | exact od | (have e_ := (Kd.V_reads' Z15.out).1; omega))
                obtain ⟨Z73, Z74, rfl, Z75, Z76⟩ := k33_openF Z71
                have Z77 := Z72 1 _ rfl
                rw [add_field _ _ 1 (by omega)] at Z77
                replace Z77 := Option.some.inj (Z77.symm.trans Z66)
                injection Z77 with hva_ hvn_ hvc_
                rw [hva_] at Z76
                rw [hvc_] at Z75
                have Z78 := ra (show Kd.V k46 46 _ w.heap.size _ _ ((rd_T33 l0 Z51).f1) from Kd.V_mk Z75 Z76)
                clear hva_ hvn_ hvc_ Z76 Z75
                clear Z72 Z70
                have Z79 := ra Z68
                have Z80 := ra Z67
                clear Z68 Z67
                replace Z59 := eq_true Z59
                replace Z60 := eq_true Z60
                have Z81 : wr.cell? ⟨Z8, 0, none⟩ = some (.bool a1_0) := (blk_cell Z10.out 0).trans rfl
                have Z82 : wr.cell? ⟨Z8, 1, none⟩ = some (.string a1_1) := (blk_cell Z10.out 1).trans rfl
                have Z83 : wr.cell? ⟨Z8, 2, none⟩ = some (.slice A1_2 l1_2.length c1_2) := (blk_cell Z10.out 2).trans rfl
                have Z84 := blk_frozen Z10.out 0
                have Z85 := blk_frozen Z10.out 1
                have Z86 := blk_frozen Z10.out 2
                go_wp2
                repeat (go_quiet (fail); try go_wp2)
                go_meet
                case rel => exact ⟨_, _, rs, H', ⟨by have := Z14.out; have := Z29.out; have := Z34.out; have := Z52.out; first | omega | exact Nat.le_refl _⟩, ⟨by (with_reducible repeat (first | apply Kd.V_alloc | apply Kd.V_drewN | apply Kd.V_drew)); exact Z15.out⟩, ⟨by (with_reducible repeat (first | apply Kd.N_alloc | apply Kd.N_drewN | apply Kd.N_drew)); exact Z53.out⟩, ⟨by (with_reducible repeat (first | apply Kd.V_alloc | apply Kd.V_drewN | apply Kd.V_drew)); exact Z16.out⟩, ⟨bk Z10⟩, ⟨bq⟩⟩
              case rest =>
               clear Z56
               try clear Z55
               try clear Z22
               try clear Z23
               try clear Z24
               try clear Z43
               try clear Z44
               try clear Z45
               try clear Z25
               try clear Z26
               try clear Z27
               try clear Z46
               try clear Z47
               try clear Z48
               obtain ⟨kq, Z57, rfl, HA, Z58, Z15, Z53, Z16, Z10, HB⟩ := hcut
               cases kq with
               | zero => exact absurd HA.out (by simp [spec_ProbeHappen.j4])
               | succ Z59 =>
                have H := HA.out
                clear HA
                simp only [spec_ProbeHappen.j4] at H
                rcases ud H with ⟨rfl, Z60⟩ | ⟨rfl, Z60⟩ <;> have H := Z60
                ·by_cases Z61 : Z49.length < 3518437208883
                 ·rw [if_pos Z61] at H
                  have Z62 := ra Z61; clear Z61
                  obtain ⟨Z63, hy_⟩ : ∃ y_ : List (S33), y_ = (Z49 ++ [(⟨a1_1, l1_2⟩ : S33)]) := ⟨_, rfl⟩
                  replace H : (if Z51 = Z19 then (spec_ProbeHappen.l0 Z59 l0 Z19 Z63 true (wrap64 (Z51 + 1)) a1_0 a1_1 l1_2) else (if 0 ≤ Z51 then (if Z51 < (l0.length : Int) then (if Z63.length < 3518437208883 then (spec_ProbeHappen.l0 Z59 l0 Z19 (Z63 ++ [(⟨(rd_T33 l0 Z51).f0, (rd_T33 l0 Z51).f1⟩ : S33)]) true (wrap64 (Z51 + 1)) a1_0 a1_1 l1_2) else (none)) else (none)) else (none))) = some (r1, r2) := yh
                  have Z64 := ra hy_
                  clear hy_
                  rcases ed H with ⟨-, Z65, Z66, H⟩ | ⟨-, Z65, Z66, H⟩
                  ·have H' := ra H; clear H
                   have Z67 : wc.cell? ⟨Z8, 0, none⟩ = some (.bool a1_0) := (blk_cell Z10.out 0).trans rfl
                   have Z68 : wc.cell? ⟨Z8, 1, none⟩ = some (.string a1_1) := (blk_cell Z10.out 1).trans rfl
                   have Z69 : wc.cell? ⟨Z8, 2, none⟩ = some (.slice A1_2 l1_2.length c1_2) := (blk_cell Z10.out 2).trans rfl
                   have Z70 := blk_frozen Z10.out 0
                   have Z71 := blk_frozen Z10.out 1
                   have Z72 := blk_frozen Z10.out 2
                   go_wp2_with (first | ((with_reducible refine gate_builtin (b := .append) (xs := #[.tmp 74, .tmp 77]) rfl ?_); (try (refine gate_guard (by rfl) ?_; dsimp only)); at_builtin; refine Kd.N_append k33 (w0 := w) w.heap.size rfl (.tmp 74) (.tmp 77) 30 33 (.agg #[(.string ⟨#[]⟩), (.slice none 0 0)]) 40 rfl Tryz.underlying30 info33 rfl (by decide) (by omega) u7 Z49 (⟨a1_1, l1_2⟩ : S33) [.string a1_1, .slice A1_2 l1_2.length c1_2] (fun k_ => ((P0_ k_ ∨ P1_2_ k_) ∨ w.heap.size ≤ k_) ∧ k_ ≠ Z8) (fun k_ => ((fun k_ => ((P0_ k_ ∨ P1_2_ k_) ∨ w.heap.size ≤ k_) ∧ k_ ≠ Z8)) k_ ∧ some k_ ≠ (u7 : Value).ownBlock) rfl rfl ?aP (fun _ hk => hk) ?aF ?aO ?aB ?aS ?aL ?_; (case aP => exact (k33_mkF _ _ (⟨a1_1, l1_2⟩ : S33) (Kd.V_reads' (Kd.V_mono (ok' := (fun k_ => ((fun k_ => ((P0_ k_ ∨ P1_2_ k_) ∨ w.heap.size ≤ k_) ∧ k_ ≠ Z8)) k_ ∧ some k_ ≠ (u7 : Value).ownBlock)) (Z16.out) (fun k_ hk => ⟨⟨hk.1, hk.2.2⟩, hk.2.1⟩))).2.1 (Kd.V_F (Kd.V_mono (ok' := (fun k_ => ((fun k_ => ((P0_ k_ ∨ P1_2_ k_) ∨ w.heap.size ≤ k_) ∧ k_ ≠ Z8)) k_ ∧ some k_ ≠ (u7 : Value).ownBlock)) (Z16.out) (fun k_ hk => ⟨⟨hk.1, hk.2.2⟩, hk.2.1⟩))))); (case aB => exact bq); (case aF => exact (fun k_ hk => ⟨(.inr (Nat.le_trans (below_size bq) hk)), Kd.freshB (g := Z8) (o := .cells #[.bool a1_0, .string a1_1, .slice A1_2 l1_2.length c1_2] 55 (0, 0)) (bk Z10) k_ hk⟩)); (case aO => exact (by (with_reducible repeat (first | apply Kd.N_alloc | apply Kd.N_drewN | apply Kd.N_drew)); exact Z53.out)); (case aS => exact (below_size bq)); (case aL => have := Z62.out; omega); intro Z73 Z74 ho hb hg hat; rw [← Z64.out] at ho; have _ := ra (Kd.V_afterv (ok := (fun k_ => ((P0_ k_ ∨ P1_2_ k_) ∨ w.heap.size ≤ k_) ∧ k_ ≠ Z8)) (vr (Kd.V_mono Z15.out (fun _ hk => ⟨⟨hk.1, hk.2.2⟩, hk.2.1⟩))) hg hat); have _ := ra (Kd.V_afterv (ok := (fun k_ => ((P0_ k_ ∨ P1_2_ k_) ∨ w.heap.size ≤ k_) ∧ k_ ≠ Z8)) (vr (Kd.V_mono Z16.out (fun _ hk => ⟨⟨hk.1, hk.2.2⟩, hk.2.1⟩))) hg hat); have _ := ra (blk_grown (g := Z8) (o := .cells #[.bool a1_0, .string a1_1, .slice A1_2 l1_2.length c1_2] 55 (0, 0)) (bk Z10) hg (Kd.N_ne Z53.out Z10.out (by decide))); have _ := ra (hb); have _ := ra (ho); clear Z15 Z16 Z10 HB Z53; rename_i Z15 Z16 Z10 HB Z75; clear ho hb hg hat))
                   repeat (go_quiet (first | ((with_reducible refine gate_builtin (b := .append) (xs := #[.tmp 74, .tmp 77]) rfl ?_); (try (refine gate_guard (by rfl) ?_; dsimp only)); at_builtin; refine Kd.N_append k33 (w0 := w) w.heap.size rfl (.tmp 74) (.tmp 77) 30 33 (.agg #[(.string ⟨#[]⟩), (.slice none 0 0)]) 40 rfl Tryz.underlying30 info33 rfl (by decide) (by omega) u7 Z49 (⟨a1_1, l1_2⟩ : S33) [.string a1_1, .slice A1_2 l1_2.length c1_2] (fun k_ => ((P0_ k_ ∨ P1_2_ k_) ∨ w.heap.size ≤ k_) ∧ k_ ≠ Z8) (fun k_ => ((fun k_ => ((P0_ k_ ∨ P1_2_ k_) ∨ w.heap.size ≤ k_) ∧ k_ ≠ Z8)) k_ ∧ some k_ ≠ (u7 : Value).ownBlock) rfl rfl ?aP (fun _ hk => hk) ?aF ?aO ?aB ?aS ?aL ?_; (case aP => exact (k33_mkF _ _ (⟨a1_1, l1_2⟩ : S33) (Kd.V_reads' (Kd.V_mono (ok' := (fun k_ => ((fun k_ => ((P0_ k_ ∨ P1_2_ k_) ∨ w.heap.size ≤ k_) ∧ k_ ≠ Z8)) k_ ∧ some k_ ≠ (u7 : Value).ownBlock)) (Z16.out) (fun k_ hk => ⟨⟨hk.1, hk.2.2⟩, hk.2.1⟩))).2.1 (Kd.V_F (Kd.V_mono (ok' := (fun k_ => ((fun k_ => ((P0_ k_ ∨ P1_2_ k_) ∨ w.heap.size ≤ k_) ∧ k_ ≠ Z8)) k_ ∧ some k_ ≠ (u7 : Value).ownBlock)) (Z16.out) (fun k_ hk => ⟨⟨hk.1, hk.2.2⟩, hk.2.1⟩))))); (case aB => exact bq); (case aF => exact (fun k_ hk => ⟨(.inr (Nat.le_trans (below_size bq) hk)), Kd.freshB (g := Z8) (o := .cells #[.bool a1_0, .string a1_1, .slice A1_2 l1_2.length c1_2] 55 (0, 0)) (bk Z10) k_ hk⟩)); (case aO => exact (by (with_reducible repeat (first | apply Kd.N_alloc | apply Kd.N_drewN | apply Kd.N_drew)); exact Z53.out)); (case aS => exact (below_size bq)); (case aL => have := Z62.out; omega); intro Z73 Z74 ho hb hg hat; rw [← Z64.out] at ho; have _ := ra (Kd.V_afterv (ok := (fun k_ => ((P0_ k_ ∨ P1_2_ k_) ∨ w.heap.size ≤ k_) ∧ k_ ≠ Z8)) (vr (Kd.V_mono Z15.out (fun _ hk => ⟨⟨hk.1, hk.2.2⟩, hk.2.1⟩))) hg hat); have _ := ra (Kd.V_afterv (ok := (fun k_ => ((P0_ k_ ∨ P1_2_ k_) ∨ w.heap.size ≤ k_) ∧ k_ ≠ Z8)) (vr (Kd.V_mono Z16.out (fun _ hk => ⟨⟨hk.1, hk.2.2⟩, hk.2.1⟩))) hg hat); have _ := ra (blk_grown (g := Z8) (o := .cells #[.bool a1_0, .string a1_1, .slice A1_2 l1_2.length c1_2] 55 (0, 0)) (bk Z10) hg (Kd.N_ne Z53.out Z10.out (by decide))); have _ := ra (hb); have _ := ra (ho); clear Z15 Z16 Z10 HB Z53; rename_i Z15 Z16 Z10 HB Z75; clear ho hb hg hat)); try go_wp2_with (first | ((with_reducible refine gate_builtin (b := .append) (xs := #[.tmp 74, .tmp 77]) rfl ?_); (try (refine gate_guard (by rfl) ?_; dsimp only)); at_builtin; refine Kd.N_append k33 (w0 := w) w.heap.size rfl (.tmp 74) (.tmp 77) 30 33 (.agg #[(.string ⟨#[]⟩), (.slice none 0 0)]) 40 rfl Tryz.underlying30 info33 rfl (by decide) (by omega) u7 Z49 (⟨a1_1, l1_2⟩ : S33) [.string a1_1, .slice A1_2 l1_2.length c1_2] (fun k_ => ((P0_ k_ ∨ P1_2_ k_) ∨ w.heap.size ≤ k_) ∧ k_ ≠ Z8) (fun k_ => ((fun k_ => ((P0_ k_ ∨ P1_2_ k_) ∨ w.heap.size ≤ k_) ∧ k_ ≠ Z8)) k_ ∧ some k_ ≠ (u7 : Value).ownBlock) rfl rfl ?aP (fun _ hk => hk) ?aF ?aO ?aB ?aS ?aL ?_; (case aP => exact (k33_mkF _ _ (⟨a1_1, l1_2⟩ : S33) (Kd.V_reads' (Kd.V_mono (ok' := (fun k_ => ((fun k_ => ((P0_ k_ ∨ P1_2_ k_) ∨ w.heap.size ≤ k_) ∧ k_ ≠ Z8)) k_ ∧ some k_ ≠ (u7 : Value).ownBlock)) (Z16.out) (fun k_ hk => ⟨⟨hk.1, hk.2.2⟩, hk.2.1⟩))).2.1 (Kd.V_F (Kd.V_mono (ok' := (fun k_ => ((fun k_ => ((P0_ k_ ∨ P1_2_ k_) ∨ w.heap.size ≤ k_) ∧ k_ ≠ Z8)) k_ ∧ some k_ ≠ (u7 : Value).ownBlock)) (Z16.out) (fun k_ hk => ⟨⟨hk.1, hk.2.2⟩, hk.2.1⟩))))); (case aB => exact bq); (case aF => exact (fun k_ hk => ⟨(.inr (Nat.le_trans (below_size bq) hk)), Kd.freshB (g := Z8) (o := .cells #[.bool a1_0, .string a1_1, .slice A1_2 l1_2.length c1_2] 55 (0, 0)) (bk Z10) k_ hk⟩)); (case aO => exact (by (with_reducible repeat (first | apply Kd.N_alloc | apply Kd.N_drewN | apply Kd.N_drew)); exact Z53.out)); (case aS => exact (below_size bq)); (case aL => have := Z62.out; omega); intro Z73 Z74 ho hb hg hat; rw [← Z64.out] at ho; have _ := ra (Kd.V_afterv (ok := (fun k_ => ((P0_ k_ ∨ P1_2_ k_) ∨ w.heap.size ≤ k_) ∧ k_ ≠ Z8)) (vr (Kd.V_mono Z15.out (fun _ hk => ⟨⟨hk.1, hk.2.2⟩, hk.2.1⟩))) hg hat); have _ := ra (Kd.V_afterv (ok := (fun k_ => ((P0_ k_ ∨ P1_2_ k_) ∨ w.heap.size ≤ k_) ∧ k_ ≠ Z8)) (vr (Kd.V_mono Z16.out (fun _ hk => ⟨⟨hk.1, hk.2.2⟩, hk.2.1⟩))) hg hat); have _ := ra (blk_grown (g := Z8) (o := .cells #[.bool a1_0, .string a1_1, .slice A1_2 l1_2.length c1_2] 55 (0, 0)) (bk Z10) hg (Kd.N_ne Z53.out Z10.out (by decide))); have _ := ra (hb); have _ := ra (ho); clear Z15 Z16 Z10 HB Z53; rename_i Z15 Z16 Z10 HB Z75; clear ho hb hg hat)))
                   go_roundg Z59
                   case measure => have := Z14.out; have := Z29.out; have := Z34.out; have := Z52.out; have := Z58.out; omega
                   case rel => exact ⟨(Z63), (true), (wrap64 (Z51 + 1)), rs, rs, H', ⟨by have := Z14.out; have := Z29.out; have := Z34.out; have := Z52.out; have := Z58.out; omega⟩, ⟨by (with_reducible repeat (first | apply Kd.V_alloc | apply Kd.V_drewN | apply Kd.V_drew)); exact Kd.V_mono Z15.out (fun _ hk => ⟨hk.1.1, ⟨hk.2, hk.1.2⟩⟩)⟩, ⟨by (with_reducible repeat (first | apply Kd.N_alloc | apply Kd.N_drewN | apply Kd.N_drew)); exact Z75.out⟩, ⟨by (with_reducible repeat (first | apply Kd.V_alloc | apply Kd.V_drewN | apply Kd.V_drew)); exact Kd.V_mono Z16.out (fun _ hk => ⟨hk.1.1, ⟨hk.2, hk.1.2⟩⟩)⟩, ⟨bk Z10⟩, ⟨bq⟩⟩
                  ·obtain ⟨Z67, H⟩ := tn H
                   obtain ⟨Z68, H⟩ := tn H
                   by_cases Z69 : Z63.length < 3518437208883
                   ·rw [if_pos Z69] at H
                    have Z70 := ra Z69; clear Z69
                    obtain ⟨Z71, hy_⟩ : ∃ y_ : List (S33), y_ = (Z63 ++ [(⟨(rd_T33 l0 Z51).f0, (rd_T33 l0 Z51).f1⟩ : S33)]) := ⟨_, rfl⟩
                    replace H : (spec_ProbeHappen.l0 Z59 l0 Z19 Z71 true (wrap64 (Z51 + 1)) a1_0 a1_1 l1_2) = some (r1, r2) := yh
                    have Z72 := ra hy_
                    clear hy_
                    have H' := ra H; clear H
                    have Z73 : wc.cell? ⟨Z8, 0, none⟩ = some (.bool a1_0) := (blk_cell Z10.out 0).trans rfl
                    have Z74 : wc.cell? ⟨Z8, 1, none⟩ = some (.string a1_1) := (blk_cell Z10.out 1).trans rfl
                    have Z75 : wc.cell? ⟨Z8, 2, none⟩ = some (.slice A1_2 l1_2.length c1_2) := (blk_cell Z10.out 2).trans rfl
                    have Z76 := blk_frozen Z10.out 0
                    have Z77 := blk_frozen Z10.out 1
                    have Z78 := blk_frozen Z10.out 2
                    go_wp2_with (first | ((with_reducible refine gate_builtin (b := .append) (xs := #[.tmp 74, .tmp 77]) rfl ?_); (try (refine gate_guard (by rfl) ?_; dsimp only)); at_builtin; refine Kd.N_append k33 (w0 := w) w.heap.size rfl (.tmp 74) (.tmp 77) 30 33 (.agg #[(.string ⟨#[]⟩), (.slice none 0 0)]) 40 rfl Tryz.underlying30 info33 rfl (by decide) (by omega) u7 Z49 (⟨a1_1, l1_2⟩ : S33) [.string a1_1, .slice A1_2 l1_2.length c1_2] (fun k_ => ((P0_ k_ ∨ P1_2_ k_) ∨ w.heap.size ≤ k_) ∧ k_ ≠ Z8) (fun k_ => ((fun k_ => ((P0_ k_ ∨ P1_2_ k_) ∨ w.heap.size ≤ k_) ∧ k_ ≠ Z8)) k_ ∧ some k_ ≠ (u7 : Value).ownBlock) rfl rfl ?aP (fun _ hk => hk) ?aF ?aO ?aB ?aS ?aL ?_; (case aP => exact (k33_mkF _ _ (⟨a1_1, l1_2⟩ : S33) (Kd.V_reads' (Kd.V_mono (ok' := (fun k_ => ((fun k_ => ((P0_ k_ ∨ P1_2_ k_) ∨ w.heap.size ≤ k_) ∧ k_ ≠ Z8)) k_ ∧ some k_ ≠ (u7 : Value).ownBlock)) (Z16.out) (fun k_ hk => ⟨⟨hk.1, hk.2.2⟩, hk.2.1⟩))).2.1 (Kd.V_F (Kd.V_mono (ok' := (fun k_ => ((fun k_ => ((P0_ k_ ∨ P1_2_ k_) ∨ w.heap.size ≤ k_) ∧ k_ ≠ Z8)) k_ ∧ some k_ ≠ (u7 : Value).ownBlock)) (Z16.out) (fun k_ hk => ⟨⟨hk.1, hk.2.2⟩, hk.2.1⟩))))); (case aB => exact bq); (case aF => exact (fun k_ hk => ⟨(.inr (Nat.le_trans (below_size bq) hk)), Kd.freshB (g := Z8) (o := .cells #[.bool a1_0, .string a1_1, .slice A1_2 l1_2.length c1_2] 55 (0, 0)) (bk Z10) k_ hk⟩)); (case aO => exact (by (with_reducible repeat (first | apply Kd.N_alloc | apply Kd.N_drewN | apply Kd.N_drew)); exact Z53.out)); (case aS => exact (below_size bq)); (case aL => have := Z62.out; omega); intro Z79 Z80 ho hb hg hat; rw [← Z64.out] at ho; have _ := ra (Kd.V_afterv (ok := (fun k_ => ((P0_ k_ ∨ P1_2_ k_) ∨ w.heap.size ≤ k_) ∧ k_ ≠ Z8)) (vr (Kd.V_mono Z15.out (fun _ hk => ⟨⟨hk.1, hk.2.2⟩, hk.2.1⟩))) hg hat); have _ := ra (Kd.V_afterv (ok := (fun k_ => ((P0_ k_ ∨ P1_2_ k_) ∨ w.heap.size ≤ k_) ∧ k_ ≠ Z8)) (vr (Kd.V_mono Z16.out (fun _ hk => ⟨⟨hk.1, hk.2.2⟩, hk.2.1⟩))) hg hat); have _ := ra (blk_grown (g := Z8) (o := .cells #[.bool a1_0, .string a1_1, .slice A1_2 l1_2.length c1_2] 55 (0, 0)) (bk Z10) hg (Kd.N_ne Z53.out Z10.out (by decide))); have _ := ra (hb); have _ := ra (ho); clear Z15 Z16 Z10 HB Z53; rename_i Z15 Z16 Z10 HB Z81; clear ho hb hg hat; have Z82 : 0 ≤ (Z51 : Int) := od; have Z83 : Z51 < (l0.length : Int) := od; obtain ⟨Z84, Z85, Z86, Z87, Z88, Z89, Z90, Z91⟩ := at_T33 (Kd.V_reads' Z15.out).2.2 Z51 Z82 Z83; cases Z87; obtain ⟨Z92, Z93, Z94, Z95⟩ := Kd.V_get Z15.out z33 Z51 Z82 (by first | exact Z83 | exact od | (have e_ := (Kd.V_reads' Z15.out).1; omega)); obtain ⟨Z96, Z97, rfl, Z98, Z99⟩ := k33_openF Z94; have Z100 := Z95 1 _ rfl; rw [add_field _ _ 1 (by omega)] at Z100; replace Z100 := Option.some.inj (Z100.symm.trans Z89); injection Z100 with hva_ hvn_ hvc_; rw [hva_] at Z99; rw [hvc_] at Z98; have Z101 := ra (show Kd.V k46 46 _ w.heap.size _ _ ((rd_T33 l0 Z51).f1) from Kd.V_mk Z98 Z99); clear hva_ hvn_ hvc_ Z99 Z98; clear Z95 Z93; have Z102 := Aside0.mk Z91; have Z103 := Aside0.mk Z90; clear Z91 Z90; replace Z82 := eq_true Z82; replace Z83 := eq_true Z83) | ((with_reducible refine gate_builtin (b := .append) (xs := #[.tmp 82, .tmp 87]) rfl ?_); (try (refine gate_guard (by rfl) ?_; dsimp only)); at_builtin; refine Kd.N_append k33 (w0 := w) w.heap.size rfl (.tmp 82) (.tmp 87) 30 33 (.agg #[(.string ⟨#[]⟩), (.slice none 0 0)]) 40 rfl Tryz.underlying30 info33 rfl (by decide) (by omega) Z79 Z63 (⟨(rd_T33 l0 Z51).f0, (rd_T33 l0 Z51).f1⟩ : S33) [.string ((rd_T33 l0 Z51).f0), .slice Z85 ((rd_T33 l0 Z51).f1).length Z86] (fun k_ => ((P0_ k_ ∨ P1_2_ k_) ∨ w.heap.size ≤ k_) ∧ k_ ≠ Z8) (fun k_ => ((fun k_ => ((P0_ k_ ∨ P1_2_ k_) ∨ w.heap.size ≤ k_) ∧ k_ ≠ Z8)) k_ ∧ some k_ ≠ (Z79 : Value).ownBlock) rfl rfl ?aP (fun _ hk => hk) ?aF ?aO ?aB ?aS ?aL ?_; (case aP => exact (k33_mkF _ _ (⟨(rd_T33 l0 Z51).f0, (rd_T33 l0 Z51).f1⟩ : S33) (Kd.V_reads' (Kd.V_mono (ok' := (fun k_ => ((fun k_ => ((P0_ k_ ∨ P1_2_ k_) ∨ w.heap.size ≤ k_) ∧ k_ ≠ Z8)) k_ ∧ some k_ ≠ (Z79 : Value).ownBlock)) (Z101.out) (fun k_ hk => ⟨⟨hk.1.1, hk.1.2⟩, hk.2⟩))).2.1 (Kd.V_F (Kd.V_mono (ok' := (fun k_ => ((fun k_ => ((P0_ k_ ∨ P1_2_ k_) ∨ w.heap.size ≤ k_) ∧ k_ ≠ Z8)) k_ ∧ some k_ ≠ (Z79 : Value).ownBlock)) (Z101.out) (fun k_ hk => ⟨⟨hk.1.1, hk.1.2⟩, hk.2⟩))))); (case aB => exact bq); (case aF => exact (fun k_ hk => ⟨(.inr (Nat.le_trans (below_size bq) hk)), Kd.freshB (g := Z8) (o := .cells #[.bool a1_0, .string a1_1, .slice A1_2 l1_2.length c1_2] 55 (0, 0)) (bk Z10) k_ hk⟩)); (case aO => exact (by (with_reducible repeat (first | apply Kd.N_alloc | apply Kd.N_drewN | apply Kd.N_drew)); exact Z81.out)); (case aS => exact (below_size bq)); (case aL => have := Z70.out; omega); intro Z104 Z105 ho hb hg hat; rw [← Z72.out] at ho; have _ := ra (Kd.V_afterv (ok := (fun k_ => ((P0_ k_ ∨ P1_2_ k_) ∨ w.heap.size ≤ k_) ∧ k_ ≠ Z8)) (vq Z15) hg hat); have _ := ra (Kd.V_afterv (ok := (fun k_ => ((P0_ k_ ∨ P1_2_ k_) ∨ w.heap.size ≤ k_) ∧ k_ ≠ Z8)) (vq Z16) hg hat); have _ := ra (blk_grown (g := Z8) (o := .cells #[.bool a1_0, .string a1_1, .slice A1_2 l1_2.length c1_2] 55 (0, 0)) (bk Z10) hg (Kd.N_ne Z81.out Z10.out (by decide))); have _ := ra (Kd.V_afterv (ok := (fun k_ => ((P0_ k_ ∨ P1_2_ k_) ∨ w.heap.size ≤ k_) ∧ k_ ≠ Z8)) (vq Z101) hg hat); have _ := ra (hb); have _ := ra (ho); clear Z15 Z16 Z10 Z101 HB Z81; rename_i Z15 Z16 Z10 Z101 HB Z106; clear ho hb hg hat))
                    repeat (go_quiet (first | ((with_reducible refine gate_builtin (b := .append) (xs := #[.tmp 74, .tmp 77]) rfl ?_); (try (refine gate_guard (by rfl) ?_; dsimp only)); at_builtin; refine Kd.N_append k33 (w0 := w) w.heap.size rfl (.tmp 74) (.tmp 77) 30 33 (.agg #[(.string ⟨#[]⟩), (.slice none 0 0)]) 40 rfl Tryz.underlying30 info33 rfl (by decide) (by omega) u7 Z49 (⟨a1_1, l1_2⟩ : S33) [.string a1_1, .slice A1_2 l1_2.length c1_2] (fun k_ => ((P0_ k_ ∨ P1_2_ k_) ∨ w.heap.size ≤ k_) ∧ k_ ≠ Z8) (fun k_ => ((fun k_ => ((P0_ k_ ∨ P1_2_ k_) ∨ w.heap.size ≤ k_) ∧ k_ ≠ Z8)) k_ ∧ some k_ ≠ (u7 : Value).ownBlock) rfl rfl ?aP (fun _ hk => hk) ?aF ?aO ?aB ?aS ?aL ?_; (case aP => exact (k33_mkF _ _ (⟨a1_1, l1_2⟩ : S33) (Kd.V_reads' (Kd.V_mono (ok' := (fun k_ => ((fun k_ => ((P0_ k_ ∨ P1_2_ k_) ∨ w.heap.size ≤ k_) ∧ k_ ≠ Z8)) k_ ∧ some k_ ≠ (u7 : Value).ownBlock)) (Z16.out) (fun k_ hk => ⟨⟨hk.1, hk.2.2⟩, hk.2.1⟩))).2.1 (Kd.V_F (Kd.V_mono (ok' := (fun k_ => ((fun k_ => ((P0_ k_ ∨ P1_2_ k_) ∨ w.heap.size ≤ k_) ∧ k_ ≠ Z8)) k_ ∧ some k_ ≠ (u7 : Value).ownBlock)) (Z16.out) (fun k_ hk => ⟨⟨hk.1, hk.2.2⟩, hk.2.1⟩))))); (case aB => exact bq); (case aF => exact (fun k_ hk => ⟨(.inr (Nat.le_trans (below_size bq) hk)), Kd.freshB (g := Z8) (o := .cells #[.bool a1_0, .string a1_1, .slice A1_2 l1_2.length c1_2] 55 (0, 0)) (bk Z10) k_ hk⟩)); (case aO => exact (by (with_reducible repeat (first | apply Kd.N_alloc | apply Kd.N_drewN | apply Kd.N_drew)); exact Z53.out)); (case aS => exact (below_size bq)); (case aL => have := Z62.out; omega); intro Z79 Z80 ho hb hg hat; rw [← Z64.out] at ho; have _ := ra (Kd.V_afterv (ok := (fun k_ => ((P0_ k_ ∨ P1_2_ k_) ∨ w.heap.size ≤ k_) ∧ k_ ≠ Z8)) (vr (Kd.V_mono Z15.out (fun _ hk => ⟨⟨hk.1, hk.2.2⟩, hk.2.1⟩))) hg hat); have _ := ra (Kd.V_afterv (ok := (fun k_ => ((P0_ k_ ∨ P1_2_ k_) ∨ w.heap.size ≤ k_) ∧ k_ ≠ Z8)) (vr (Kd.V_mono Z16.out (fun _ hk => ⟨⟨hk.1, hk.2.2⟩, hk.2.1⟩))) hg hat); have _ := ra (blk_grown (g := Z8) (o := .cells #[.bool a1_0, .string a1_1, .slice A1_2 l1_2.length c1_2] 55 (0, 0)) (bk Z10) hg (Kd.N_ne Z53.out Z10.out (by decide))); have _ := ra (hb); have _ := ra (ho); clear Z15 Z16 Z10 HB Z53; rename_i Z15 Z16 Z10 HB Z81; clear ho hb hg hat; have Z82 : 0 ≤ (Z51 : Int) := od; have Z83 : Z51 < (l0.length : Int) := od; obtain ⟨Z84, Z85, Z86, Z87, Z88, Z89, Z90, Z91⟩ := at_T33 (Kd.V_reads' Z15.out).2.2 Z51 Z82 Z83; cases Z87; obtain ⟨Z92, Z93, Z94, Z95⟩ := Kd.V_get Z15.out z33 Z51 Z82 (by first | exact Z83 | exact od | (have e_ := (Kd.V_reads' Z15.out).1; omega)); obtain ⟨Z96, Z97, rfl, Z98, Z99⟩ := k33_openF Z94; have Z100 := Z95 1 _ rfl; rw [add_field _ _ 1 (by omega)] at Z100; replace Z100 := Option.some.inj (Z100.symm.trans Z89); injection Z100 with hva_ hvn_ hvc_; rw [hva_] at Z99; rw [hvc_] at Z98; have Z101 := ra (show Kd.V k46 46 _ w.heap.size _ _ ((rd_T33 l0 Z51).f1) from Kd.V_mk Z98 Z99); clear hva_ hvn_ hvc_ Z99 Z98; clear Z95 Z93; have Z102 := Aside0.mk Z91; have Z103 := Aside0.mk Z90; clear Z91 Z90; replace Z82 := eq_true Z82; replace Z83 := eq_true Z83) | ((with_reducible refine gate_builtin (b := .append) (xs := #[.tmp 82, .tmp 87]) rfl ?_); (try (refine gate_guard (by rfl) ?_; dsimp only)); at_builtin; refine Kd.N_append k33 (w0 := w) w.heap.size rfl (.tmp 82) (.tmp 87) 30 33 (.agg #[(.string ⟨#[]⟩), (.slice none 0 0)]) 40 rfl Tryz.underlying30 info33 rfl (by decide) (by omega) Z79 Z63 (⟨(rd_T33 l0 Z51).f0, (rd_T33 l0 Z51).f1⟩ : S33) [.string ((rd_T33 l0 Z51).f0), .slice Z85 ((rd_T33 l0 Z51).f1).length Z86] (fun k_ => ((P0_ k_ ∨ P1_2_ k_) ∨ w.heap.size ≤ k_) ∧ k_ ≠ Z8) (fun k_ => ((fun k_ => ((P0_ k_ ∨ P1_2_ k_) ∨ w.heap.size ≤ k_) ∧ k_ ≠ Z8)) k_ ∧ some k_ ≠ (Z79 : Value).ownBlock) rfl rfl ?aP (fun _ hk => hk) ?aF ?aO ?aB ?aS ?aL ?_; (case aP => exact (k33_mkF _ _ (⟨(rd_T33 l0 Z51).f0, (rd_T33 l0 Z51).f1⟩ : S33) (Kd.V_reads' (Kd.V_mono (ok' := (fun k_ => ((fun k_ => ((P0_ k_ ∨ P1_2_ k_) ∨ w.heap.size ≤ k_) ∧ k_ ≠ Z8)) k_ ∧ some k_ ≠ (Z79 : Value).ownBlock)) (Z101.out) (fun k_ hk => ⟨⟨hk.1.1, hk.1.2⟩, hk.2⟩))).2.1 (Kd.V_F (Kd.V_mono (ok' := (fun k_ => ((fun k_ => ((P0_ k_ ∨ P1_2_ k_) ∨ w.heap.size ≤ k_) ∧ k_ ≠ Z8)) k_ ∧ some k_ ≠ (Z79 : Value).ownBlock)) (Z101.out) (fun k_ hk => ⟨⟨hk.1.1, hk.1.2⟩, hk.2⟩))))); (case aB => exact bq); (case aF => exact (fun k_ hk => ⟨(.inr (Nat.le_trans (below_size bq) hk)), Kd.freshB (g := Z8) (o := .cells #[.bool a1_0, .string a1_1, .slice A1_2 l1_2.length c1_2] 55 (0, 0)) (bk Z10) k_ hk⟩)); (case aO => exact (by (with_reducible repeat (first | apply Kd.N_alloc | apply Kd.N_drewN | apply Kd.N_drew)); exact Z81.out)); (case aS => exact (below_size bq)); (case aL => have := Z70.out; omega); intro Z104 Z105 ho hb hg hat; rw [← Z72.out] at ho; have _ := ra (Kd.V_afterv (ok := (fun k_ => ((P0_ k_ ∨ P1_2_ k_) ∨ w.heap.size ≤ k_) ∧ k_ ≠ Z8)) (vq Z15) hg hat); have _ := ra (Kd.V_afterv (ok := (fun k_ => ((P0_ k_ ∨ P1_2_ k_) ∨ w.heap.size ≤ k_) ∧ k_ ≠ Z8)) (vq Z16) hg hat); have _ := ra (blk_grown (g := Z8) (o := .cells #[.bool a1_0, .string a1_1, .slice A1_2 l1_2.length c1_2] 55 (0, 0)) (bk Z10) hg (Kd.N_ne Z81.out Z10.out (by decide))); have _ := ra (Kd.V_afterv (ok := (fun k_ => ((P0_ k_ ∨ P1_2_ k_) ∨ w.heap.size ≤ k_) ∧ k_ ≠ Z8)) (vq Z101) hg hat); have _ := ra (hb); have _ := ra (ho); clear Z15 Z16 Z10 Z101 HB Z81; rename_i Z15 Z16 Z10 Z101 HB Z106; clear ho hb hg hat)); try go_wp2_with (first | ((with_reducible refine gate_builtin (b := .append) (xs := #[.tmp 74, .tmp 77]) rfl ?_); (try (refine gate_guard (by rfl) ?_; dsimp only)); at_builtin; refine Kd.N_append k33 (w0 := w) w.heap.size rfl (.tmp 74) (.tmp 77) 30 33 (.agg #[(.string ⟨#[]⟩), (.slice none 0 0)]) 40 rfl Tryz.underlying30 info33 rfl (by decide) (by omega) u7 Z49 (⟨a1_1, l1_2⟩ : S33) [.string a1_1, .slice A1_2 l1_2.length c1_2] (fun k_ => ((P0_ k_ ∨ P1_2_ k_) ∨ w.heap.size ≤ k_) ∧ k_ ≠ Z8) (fun k_ => ((fun k_ => ((P0_ k_ ∨ P1_2_ k_) ∨ w.heap.size ≤ k_) ∧ k_ ≠ Z8)) k_ ∧ some k_ ≠ (u7 : Value).ownBlock) rfl rfl ?aP (fun _ hk => hk) ?aF ?aO ?aB ?aS ?aL ?_; (case aP => exact (k33_mkF _ _ (⟨a1_1, l1_2⟩ : S33) (Kd.V_reads' (Kd.V_mono (ok' := (fun k_ => ((fun k_ => ((P0_ k_ ∨ P1_2_ k_) ∨ w.heap.size ≤ k_) ∧ k_ ≠ Z8)) k_ ∧ some k_ ≠ (u7 : Value).ownBlock)) (Z16.out) (fun k_ hk => ⟨⟨hk.1, hk.2.2⟩, hk.2.1⟩))).2.1 (Kd.V_F (Kd.V_mono (ok' := (fun k_ => ((fun k_ => ((P0_ k_ ∨ P1_2_ k_) ∨ w.heap.size ≤ k_) ∧ k_ ≠ Z8)) k_ ∧ some k_ ≠ (u7 : Value).ownBlock)) (Z16.out) (fun k_ hk => ⟨⟨hk.1, hk.2.2⟩, hk.2.1⟩))))); (case aB => exact bq); (case aF => exact (fun k_ hk => ⟨(.inr (Nat.le_trans (below_size bq) hk)), Kd.freshB (g := Z8) (o := .cells #[.bool a1_0, .string a1_1, .slice A1_2 l1_2.length c1_2] 55 (0, 0)) (bk Z10) k_ hk⟩)); (case aO => exact (by (with_reducible repeat (first | apply Kd.N_alloc | apply Kd.N_drewN | apply Kd.N_drew)); exact Z53.out)); (case aS => exact (below_size bq)); (case aL => have := Z62.out; omega); intro Z79 Z80 ho hb hg hat; rw [← Z64.out] at ho; have _ := ra (Kd.V_afterv (ok := (fun k_ => ((P0_ k_ ∨ P1_2_ k_) ∨ w.heap.size ≤ k_) ∧ k_ ≠ Z8)) (vr (Kd.V_mono Z15.out (fun _ hk => ⟨⟨hk.1, hk.2.2⟩, hk.2.1⟩))) hg hat); have _ := ra (Kd.V_afterv (ok := (fun k_ => ((P0_ k_ ∨ P1_2_ k_) ∨ w.heap.size ≤ k_) ∧ k_ ≠ Z8)) (vr (Kd.V_mono Z16.out (fun _ hk => ⟨⟨hk.1, hk.2.2⟩, hk.2.1⟩))) hg hat); have _ := ra (blk_grown (g := Z8) (o := .cells #[.bool a1_0, .string a1_1, .slice A1_2 l1_2.length c1_2] 55 (0, 0)) (bk Z10) hg (Kd.N_ne Z53.out Z10.out (by decide))); have _ := ra (hb); have _ := ra (ho); clear Z15 Z16 Z10 HB Z53; rename_i Z15 Z16 Z10 HB Z81; clear ho hb hg hat; have Z82 : 0 ≤ (Z51 : Int) := od; have Z83 : Z51 < (l0.length : Int) := od; obtain ⟨Z84, Z85, Z86, Z87, Z88, Z89, Z90, Z91⟩ := at_T33 (Kd.V_reads' Z15.out).2.2 Z51 Z82 Z83; cases Z87; obtain ⟨Z92, Z93, Z94, Z95⟩ := Kd.V_get Z15.out z33 Z51 Z82 (by first | exact Z83 | exact od | (have e_ := (Kd.V_reads' Z15.out).1; omega)); obtain ⟨Z96, Z97, rfl, Z98, Z99⟩ := k33_openF Z94; have Z100 := Z95 1 _ rfl; rw [add_field _ _ 1 (by omega)] at Z100; replace Z100 := Option.some.inj (Z100.symm.trans Z89); injection Z100 with hva_ hvn_ hvc_; rw [hva_] at Z99; rw [hvc_] at Z98; have Z101 := ra (show Kd.V k46 46 _ w.heap.size _ _ ((rd_T33 l0 Z51).f1) from Kd.V_mk Z98 Z99); clear hva_ hvn_ hvc_ Z99 Z98; clear Z95 Z93; have Z102 := Aside0.mk Z91; have Z103 := Aside0.mk Z90; clear Z91 Z90; replace Z82 := eq_true Z82; replace Z83 := eq_true Z83) | ((with_reducible refine gate_builtin (b := .append) (xs := #[.tmp 82, .tmp 87]) rfl ?_); (try (refine gate_guard (by rfl) ?_; dsimp only)); at_builtin; refine Kd.N_append k33 (w0 := w) w.heap.size rfl (.tmp 82) (.tmp 87) 30 33 (.agg #[(.string ⟨#[]⟩), (.slice none 0 0)]) 40 rfl Tryz.underlying30 info33 rfl (by decide) (by omega) Z79 Z63 (⟨(rd_T33 l0 Z51).f0, (rd_T33 l0 Z51).f1⟩ : S33) [.string ((rd_T33 l0 Z51).f0), .slice Z85 ((rd_T33 l0 Z51).f1).length Z86] (fun k_ => ((P0_ k_ ∨ P1_2_ k_) ∨ w.heap.size ≤ k_) ∧ k_ ≠ Z8) (fun k_ => ((fun k_ => ((P0_ k_ ∨ P1_2_ k_) ∨ w.heap.size ≤ k_) ∧ k_ ≠ Z8)) k_ ∧ some k_ ≠ (Z79 : Value).ownBlock) rfl rfl ?aP (fun _ hk => hk) ?aF ?aO ?aB ?aS ?aL ?_; (case aP => exact (k33_mkF _ _ (⟨(rd_T33 l0 Z51).f0, (rd_T33 l0 Z51).f1⟩ : S33) (Kd.V_reads' (Kd.V_mono (ok' := (fun k_ => ((fun k_ => ((P0_ k_ ∨ P1_2_ k_) ∨ w.heap.size ≤ k_) ∧ k_ ≠ Z8)) k_ ∧ some k_ ≠ (Z79 : Value).ownBlock)) (Z101.out) (fun k_ hk => ⟨⟨hk.1.1, hk.1.2⟩, hk.2⟩))).2.1 (Kd.V_F (Kd.V_mono (ok' := (fun k_ => ((fun k_ => ((P0_ k_ ∨ P1_2_ k_) ∨ w.heap.size ≤ k_) ∧ k_ ≠ Z8)) k_ ∧ some k_ ≠ (Z79 : Value).ownBlock)) (Z101.out) (fun k_ hk => ⟨⟨hk.1.1, hk.1.2⟩, hk.2⟩))))); (case aB => exact bq); (case aF => exact (fun k_ hk => ⟨(.inr (Nat.le_trans (below_size bq) hk)), Kd.freshB (g := Z8) (o := .cells #[.bool a1_0, .string a1_1, .slice A1_2 l1_2.length c1_2] 55 (0, 0)) (bk Z10) k_ hk⟩)); (case aO => exact (by (with_reducible repeat (first | apply Kd.N_alloc | apply Kd.N_drewN | apply Kd.N_drew)); exact Z81.out)); (case aS => exact (below_size bq)); (case aL => have := Z70.out; omega); intro Z104 Z105 ho hb hg hat; rw [← Z72.out] at ho; have _ := ra (Kd.V_afterv (ok := (fun k_ => ((P0_ k_ ∨ P1_2_ k_) ∨ w.heap.size ≤ k_) ∧ k_ ≠ Z8)) (vq Z15) hg hat); have _ := ra (Kd.V_afterv (ok := (fun k_ => ((P0_ k_ ∨ P1_2_ k_) ∨ w.heap.size ≤ k_) ∧ k_ ≠ Z8)) (vq Z16) hg hat); have _ := ra (blk_grown (g := Z8) (o := .cells #[.bool a1_0, .string a1_1, .slice A1_2 l1_2.length c1_2] 55 (0, 0)) (bk Z10) hg (Kd.N_ne Z81.out Z10.out (by decide))); have _ := ra (Kd.V_afterv (ok := (fun k_ => ((P0_ k_ ∨ P1_2_ k_) ∨ w.heap.size ≤ k_) ∧ k_ ≠ Z8)) (vq Z101) hg hat); have _ := ra (hb); have _ := ra (ho); clear Z15 Z16 Z10 Z101 HB Z81; rename_i Z15 Z16 Z10 Z101 HB Z106; clear ho hb hg hat)))
                    go_roundg Z59
                    case measure => have := Z14.out; have := Z29.out; have := Z34.out; have := Z52.out; have := Z58.out; omega
                    case rel => exact ⟨(Z71), (true), (wrap64 (Z51 + 1)), rs, rs, H', ⟨by have := Z14.out; have := Z29.out; have := Z34.out; have := Z52.out; have := Z58.out; omega⟩, ⟨by (with_reducible repeat (first | apply Kd.V_alloc | apply Kd.V_drewN | apply Kd.V_drew)); exact Kd.V_mono Z15.out (fun _ hk => ⟨hk.1.1, ⟨hk.2, hk.1.2⟩⟩)⟩, ⟨by (with_reducible repeat (first | apply Kd.N_alloc | apply Kd.N_drewN | apply Kd.N_drew)); exact Z106.out⟩, ⟨by (with_reducible repeat (first | apply Kd.V_alloc | apply Kd.V_drewN | apply Kd.V_drew)); exact Kd.V_mono Z16.out (fun _ hk => ⟨hk.1.1, ⟨hk.2, hk.1.2⟩⟩)⟩, ⟨bk Z10⟩, ⟨bq⟩⟩
                   ·rw [if_neg Z69] at H
                    exact absurd H (by simp)
                 ·rw [if_neg Z61] at H
                  exact absurd H (by simp)
                ·rcases ed H with ⟨-, Z61, Z62, H⟩ | ⟨-, Z61, Z62, H⟩
                 ·have H' := ra H; clear H
                  go_wp2
                  repeat (go_quiet (fail); try go_wp2)
                  go_roundg Z59
                  case measure => have := Z14.out; have := Z29.out; have := Z34.out; have := Z52.out; have := Z58.out; omega
                  case rel => exact ⟨(Z49), (Z50), (wrap64 (Z51 + 1)), rs, rs, H', ⟨by have := Z14.out; have := Z29.out; have := Z34.out; have := Z52.out; have := Z58.out; omega⟩, ⟨by (with_reducible repeat (first | apply Kd.V_alloc | apply Kd.V_drewN | apply Kd.V_drew)); exact Z15.out⟩, ⟨by (with_reducible repeat (first | apply Kd.N_alloc | apply Kd.N_drewN | apply Kd.N_drew)); exact Z53.out⟩, ⟨by (with_reducible repeat (first | apply Kd.V_alloc | apply Kd.V_drewN | apply Kd.V_drew)); exact Z16.out⟩, ⟨bk Z10⟩, ⟨bq⟩⟩
                 ·obtain ⟨Z63, H⟩ := tn H
                  obtain ⟨Z64, H⟩ := tn H
                  by_cases Z65 : Z49.length < 3518437208883
                  ·rw [if_pos Z65] at H
                   have Z66 := ra Z65; clear Z65
                   obtain ⟨Z67, hy_⟩ : ∃ y_ : List (S33), y_ = (Z49 ++ [(⟨(rd_T33 l0 Z51).f0, (rd_T33 l0 Z51).f1⟩ : S33)]) := ⟨_, rfl⟩
                   replace H : (spec_ProbeHappen.l0 Z59 l0 Z19 Z67 Z50 (wrap64 (Z51 + 1)) a1_0 a1_1 l1_2) = some (r1, r2) := yh
                   have Z68 := ra hy_
                   clear hy_
                   have H' := ra H; clear H
                   have Z69 : 0 ≤ (Z51 : Int) := od
                   have Z70 : Z51 < (l0.length : Int) := od
                   obtain ⟨Z71, Z72, Z73, Z74, Z75, Z76, Z77, Z78⟩ := at_T33 (Kd.V_reads' Z15.out).2.2 Z51 Z69 Z70
                   cases Z74
                   obtain ⟨Z79, Z80, Z81, Z82⟩ := Kd.V_get Z15.out z33 Z51 Z69 (by first | exact Z70 | exact od | (have e_ := (Kd.V_reads' Z15.out).1; omega))
                   obtain ⟨Z83, Z84, rfl, Z85, Z86⟩ := k33_openF Z81
                   have Z87 := Z82 1 _ rfl
                   rw [add_field _ _ 1 (by omega)] at Z87
                   replace Z87 := Option.some.inj (Z87.symm.trans Z76)
                   injection Z87 with hva_ hvn_ hvc_
                   rw [hva_] at Z86
                   rw [hvc_] at Z85
                   have Z88 := ra (show Kd.V k46 46 _ w.heap.size _ _ ((rd_T33 l0 Z51).f1) from Kd.V_mk Z85 Z86)
                   clear hva_ hvn_ hvc_ Z86 Z85
                   clear Z82 Z80
                   have Z89 := ra Z78
                   have Z90 := ra Z77
                   clear Z78 Z77
                   replace Z69 := eq_true Z69
                   replace Z70 := eq_true Z70
                   go_wp2_with (first | ((with_reducible refine gate_builtin (b := .append) (xs := #[.tmp 82, .tmp 87]) rfl ?_); (try (refine gate_guard (by rfl) ?_; dsimp only)); at_builtin; refine Kd.N_append k33 (w0 := w) w.heap.size rfl (.tmp 82) (.tmp 87) 30 33 (.agg #[(.string ⟨#[]⟩), (.slice none 0 0)]) 40 rfl Tryz.underlying30 info33 rfl (by decide) (by omega) u7 Z49 (⟨(rd_T33 l0 Z51).f0, (rd_T33 l0 Z51).f1⟩ : S33) [.string ((rd_T33 l0 Z51).f0), .slice Z72 ((rd_T33 l0 Z51).f1).length Z73] (fun k_ => ((P0_ k_ ∨ P1_2_ k_) ∨ w.heap.size ≤ k_) ∧ k_ ≠ Z8) (fun k_ => ((fun k_ => ((P0_ k_ ∨ P1_2_ k_) ∨ w.heap.size ≤ k_) ∧ k_ ≠ Z8)) k_ ∧ some k_ ≠ (u7 : Value).ownBlock) rfl rfl ?aP (fun _ hk => hk) ?aF ?aO ?aB ?aS ?aL ?_; (case aP => exact (k33_mkF _ _ (⟨(rd_T33 l0 Z51).f0, (rd_T33 l0 Z51).f1⟩ : S33) (Kd.V_reads' (Kd.V_mono (ok' := (fun k_ => ((fun k_ => ((P0_ k_ ∨ P1_2_ k_) ∨ w.heap.size ≤ k_) ∧ k_ ≠ Z8)) k_ ∧ some k_ ≠ (u7 : Value).ownBlock)) (Z88.out) (fun k_ hk => ⟨⟨hk.1, hk.2.2⟩, hk.2.1⟩))).2.1 (Kd.V_F (Kd.V_mono (ok' := (fun k_ => ((fun k_ => ((P0_ k_ ∨ P1_2_ k_) ∨ w.heap.size ≤ k_) ∧ k_ ≠ Z8)) k_ ∧ some k_ ≠ (u7 : Value).ownBlock)) (Z88.out) (fun k_ hk => ⟨⟨hk.1, hk.2.2⟩, hk.2.1⟩))))); (case aB => exact bq); (case aF => exact (fun k_ hk => ⟨(.inr (Nat.le_trans (below_size bq) hk)), Kd.freshB (g := Z8) (o := .cells #[.bool a1_0, .string a1_1, .slice A1_2 l1_2.length c1_2] 55 (0, 0)) (bk Z10) k_ hk⟩)); (case aO => exact (by (with_reducible repeat (first | apply Kd.N_alloc | apply Kd.N_drewN | apply Kd.N_drew)); exact Z53.out)); (case aS => exact (below_size bq)); (case aL => have := Z66.out; omega); intro Z91 Z92 ho hb hg hat; rw [← Z68.out] at ho; have _ := ra (Kd.V_afterv (ok := (fun k_ => ((P0_ k_ ∨ P1_2_ k_) ∨ w.heap.size ≤ k_) ∧ k_ ≠ Z8)) (vr (Kd.V_mono Z15.out (fun _ hk => ⟨⟨hk.1, hk.2.2⟩, hk.2.1⟩))) hg hat); have _ := ra (Kd.V_afterv (ok := (fun k_ => ((P0_ k_ ∨ P1_2_ k_) ∨ w.heap.size ≤ k_) ∧ k_ ≠ Z8)) (vr (Kd.V_mono Z16.out (fun _ hk => ⟨⟨hk.1, hk.2.2⟩, hk.2.1⟩))) hg hat); have _ := ra (blk_grown (g := Z8) (o := .cells #[.bool a1_0, .string a1_1, .slice A1_2 l1_2.length c1_2] 55 (0, 0)) (bk Z10) hg (Kd.N_ne Z53.out Z10.out (by decide))); have _ := ra (Kd.V_afterv (ok := (fun k_ => ((P0_ k_ ∨ P1_2_ k_) ∨ w.heap.size ≤ k_) ∧ k_ ≠ Z8)) (vr (Kd.V_mono Z88.out (fun _ hk => ⟨⟨hk.1, hk.2.2⟩, hk.2.1⟩))) hg hat); have _ := ra (hb); have _ := ra (ho); clear Z15 Z16 Z10 Z88 HB Z53; rename_i Z15 Z16 Z10 Z88 HB Z93; clear ho hb hg hat))
                   repeat (go_quiet (first | ((with_reducible refine gate_builtin (b := .append) (xs := #[.tmp 82, .tmp 87]) rfl ?_); (try (refine gate_guard (by rfl) ?_; dsimp only)); at_builtin; refine Kd.N_append k33 (w0 := w) w.heap.size rfl (.tmp 82) (.tmp 87) 30 33 (.agg #[(.string ⟨#[]⟩), (.slice none 0 0)]) 40 rfl Tryz.underlying30 info33 rfl (by decide) (by omega) u7 Z49 (⟨(rd_T33 l0 Z51).f0, (rd_T33 l0 Z51).f1⟩ : S33) [.string ((rd_T33 l0 Z51).f0), .slice Z72 ((rd_T33 l0 Z51).f1).length Z73] (fun k_ => ((P0_ k_ ∨ P1_2_ k_) ∨ w.heap.size ≤ k_) ∧ k_ ≠ Z8) (fun k_ => ((fun k_ => ((P0_ k_ ∨ P1_2_ k_) ∨ w.heap.size ≤ k_) ∧ k_ ≠ Z8)) k_ ∧ some k_ ≠ (u7 : Value).ownBlock) rfl rfl ?aP (fun _ hk => hk) ?aF ?aO ?aB ?aS ?aL ?_; (case aP => exact (k33_mkF _ _ (⟨(rd_T33 l0 Z51).f0, (rd_T33 l0 Z51).f1⟩ : S33) (Kd.V_reads' (Kd.V_mono (ok' := (fun k_ => ((fun k_ => ((P0_ k_ ∨ P1_2_ k_) ∨ w.heap.size ≤ k_) ∧ k_ ≠ Z8)) k_ ∧ some k_ ≠ (u7 : Value).ownBlock)) (Z88.out) (fun k_ hk => ⟨⟨hk.1, hk.2.2⟩, hk.2.1⟩))).2.1 (Kd.V_F (Kd.V_mono (ok' := (fun k_ => ((fun k_ => ((P0_ k_ ∨ P1_2_ k_) ∨ w.heap.size ≤ k_) ∧ k_ ≠ Z8)) k_ ∧ some k_ ≠ (u7 : Value).ownBlock)) (Z88.out) (fun k_ hk => ⟨⟨hk.1, hk.2.2⟩, hk.2.1⟩))))); (case aB => exact bq); (case aF => exact (fun k_ hk => ⟨(.inr (Nat.le_trans (below_size bq) hk)), Kd.freshB (g := Z8) (o := .cells #[.bool a1_0, .string a1_1, .slice A1_2 l1_2.length c1_2] 55 (0, 0)) (bk Z10) k_ hk⟩)); (case aO => exact (by (with_reducible repeat (first | apply Kd.N_alloc | apply Kd.N_drewN | apply Kd.N_drew)); exact Z53.out)); (case aS => exact (below_size bq)); (case aL => have := Z66.out; omega); intro Z91 Z92 ho hb hg hat; rw [← Z68.out] at ho; have _ := ra (Kd.V_afterv (ok := (fun k_ => ((P0_ k_ ∨ P1_2_ k_) ∨ w.heap.size ≤ k_) ∧ k_ ≠ Z8)) (vr (Kd.V_mono Z15.out (fun _ hk => ⟨⟨hk.1, hk.2.2⟩, hk.2.1⟩))) hg hat); have _ := ra (Kd.V_afterv (ok := (fun k_ => ((P0_ k_ ∨ P1_2_ k_) ∨ w.heap.size ≤ k_) ∧ k_ ≠ Z8)) (vr (Kd.V_mono Z16.out (fun _ hk => ⟨⟨hk.1, hk.2.2⟩, hk.2.1⟩))) hg hat); have _ := ra (blk_grown (g := Z8) (o := .cells #[.bool a1_0, .string a1_1, .slice A1_2 l1_2.length c1_2] 55 (0, 0)) (bk Z10) hg (Kd.N_ne Z53.out Z10.out (by decide))); have _ := ra (Kd.V_afterv (ok := (fun k_ => ((P0_ k_ ∨ P1_2_ k_) ∨ w.heap.size ≤ k_) ∧ k_ ≠ Z8)) (vr (Kd.V_mono Z88.out (fun _ hk => ⟨⟨hk.1, hk.2.2⟩, hk.2.1⟩))) hg hat); have _ := ra (hb); have _ := ra (ho); clear Z15 Z16 Z10 Z88 HB Z53; rename_i Z15 Z16 Z10 Z88 HB Z93; clear ho hb hg hat)); try go_wp2_with (first | ((with_reducible refine gate_builtin (b := .append) (xs := #[.tmp 82, .tmp 87]) rfl ?_); (try (refine gate_guard (by rfl) ?_; dsimp only)); at_builtin; refine Kd.N_append k33 (w0 := w) w.heap.size rfl (.tmp 82) (.tmp 87) 30 33 (.agg #[(.string ⟨#[]⟩), (.slice none 0 0)]) 40 rfl Tryz.underlying30 info33 rfl (by decide) (by omega) u7 Z49 (⟨(rd_T33 l0 Z51).f0, (rd_T33 l0 Z51).f1⟩ : S33) [.string ((rd_T33 l0 Z51).f0), .slice Z72 ((rd_T33 l0 Z51).f1).length Z73] (fun k_ => ((P0_ k_ ∨ P1_2_ k_) ∨ w.heap.size ≤ k_) ∧ k_ ≠ Z8) (fun k_ => ((fun k_ => ((P0_ k_ ∨ P1_2_ k_) ∨ w.heap.size ≤ k_) ∧ k_ ≠ Z8)) k_ ∧ some k_ ≠ (u7 : Value).ownBlock) rfl rfl ?aP (fun _ hk => hk) ?aF ?aO ?aB ?aS ?aL ?_; (case aP => exact (k33_mkF _ _ (⟨(rd_T33 l0 Z51).f0, (rd_T33 l0 Z51).f1⟩ : S33) (Kd.V_reads' (Kd.V_mono (ok' := (fun k_ => ((fun k_ => ((P0_ k_ ∨ P1_2_ k_) ∨ w.heap.size ≤ k_) ∧ k_ ≠ Z8)) k_ ∧ some k_ ≠ (u7 : Value).ownBlock)) (Z88.out) (fun k_ hk => ⟨⟨hk.1, hk.2.2⟩, hk.2.1⟩))).2.1 (Kd.V_F (Kd.V_mono (ok' := (fun k_ => ((fun k_ => ((P0_ k_ ∨ P1_2_ k_) ∨ w.heap.size ≤ k_) ∧ k_ ≠ Z8)) k_ ∧ some k_ ≠ (u7 : Value).ownBlock)) (Z88.out) (fun k_ hk => ⟨⟨hk.1, hk.2.2⟩, hk.2.1⟩))))); (case aB => exact bq); (case aF => exact (fun k_ hk => ⟨(.inr (Nat.le_trans (below_size bq) hk)), Kd.freshB (g := Z8) (o := .cells #[.bool a1_0, .string a1_1, .slice A1_2 l1_2.length c1_2] 55 (0, 0)) (bk Z10) k_ hk⟩)); (case aO => exact (by (with_reducible repeat (first | apply Kd.N_alloc | apply Kd.N_drewN | apply Kd.N_drew)); exact Z53.out)); (case aS => exact (below_size bq)); (case aL => have := Z66.out; omega); intro Z91 Z92 ho hb hg hat; rw [← Z68.out] at ho; have _ := ra (Kd.V_afterv (ok := (fun k_ => ((P0_ k_ ∨ P1_2_ k_) ∨ w.heap.size ≤ k_) ∧ k_ ≠ Z8)) (vr (Kd.V_mono Z15.out (fun _ hk => ⟨⟨hk.1, hk.2.2⟩, hk.2.1⟩))) hg hat); have _ := ra (Kd.V_afterv (ok := (fun k_ => ((P0_ k_ ∨ P1_2_ k_) ∨ w.heap.size ≤ k_) ∧ k_ ≠ Z8)) (vr (Kd.V_mono Z16.out (fun _ hk => ⟨⟨hk.1, hk.2.2⟩, hk.2.1⟩))) hg hat); have _ := ra (blk_grown (g := Z8) (o := .cells #[.bool a1_0, .string a1_1, .slice A1_2 l1_2.length c1_2] 55 (0, 0)) (bk Z10) hg (Kd.N_ne Z53.out Z10.out (by decide))); have _ := ra (Kd.V_afterv (ok := (fun k_ => ((P0_ k_ ∨ P1_2_ k_) ∨ w.heap.size ≤ k_) ∧ k_ ≠ Z8)) (vr (Kd.V_mono Z88.out (fun _ hk => ⟨⟨hk.1, hk.2.2⟩, hk.2.1⟩))) hg hat); have _ := ra (hb); have _ := ra (ho); clear Z15 Z16 Z10 Z88 HB Z53; rename_i Z15 Z16 Z10 Z88 HB Z93; clear ho hb hg hat)))
                   go_roundg Z59
                   case measure => have := Z14.out; have := Z29.out; have := Z34.out; have := Z52.out; have := Z58.out; omega
                   case rel => exact ⟨(Z67), (Z50), (wrap64 (Z51 + 1)), rs, rs, H', ⟨by have := Z14.out; have := Z29.out; have := Z34.out; have := Z52.out; have := Z58.out; omega⟩, ⟨by (with_reducible repeat (first | apply Kd.V_alloc | apply Kd.V_drewN | apply Kd.V_drew)); exact Kd.V_mono Z15.out (fun _ hk => ⟨hk.1.1, ⟨hk.2, hk.1.2⟩⟩)⟩, ⟨by (with_reducible repeat (first | apply Kd.N_alloc | apply Kd.N_drewN | apply Kd.N_drew)); exact Z93.out⟩, ⟨by (with_reducible repeat (first | apply Kd.V_alloc | apply Kd.V_drewN | apply Kd.V_drew)); exact Kd.V_mono Z16.out (fun _ hk => ⟨hk.1.1, ⟨hk.2, hk.1.2⟩⟩)⟩, ⟨bk Z10⟩, ⟨bq⟩⟩
                  ·rw [if_neg Z65] at H
                   exact absurd H (by simp)
             ·rcases ud H with ⟨rfl, Z56⟩ | ⟨rfl, Z56⟩ <;> have H := Z56
              ·obtain ⟨Z57, Z58, H⟩ := bo H
               simp only [Option.some.injEq, Prod.mk.injEq] at H
               obtain ⟨rfl, rfl⟩ := H
               obtain ⟨Z59, Z60, Z61⟩ := Kd.N_slice Z53.out
               subst Z61
               go_wp2_with (first | (go_at_call 69; (with_reducible refine (spec_l2List.calls _ _ _ _ _ _ ?side1 ?side2 Z58.out).mono ?_); (case side1 => repeat (first | exact (Kd.N_reads' Z53.out).2.2 | (with_reducible refine Kd.C_alloc ?_ _) | (with_reducible refine Kd.C_drewN ?_ _) | (with_reducible refine Kd.C_drew ?_))); (case side2 => exact (Kd.N_reads' Z53.out).2.1); rintro e Z62 ⟨Z63, rfl, Z64, hb⟩; have Z65 := ra (Kd.S_lower Z64 (below_size (by repeat (first | (with_reducible first | exact HB.out | apply below_alloc | apply pw_below_drewN | apply below_drew1 | refine below_set ?_ (Aside0.out (by assumption))) | exact HB.out)))); have Z66 := ra (Kd.N_lower (Kd.N_mono (ok' := fun k_ => ((P0_ k_ ∨ P1_2_ k_) ∨ w.heap.size ≤ k_) ∧ some k_ ≠ (.slice Z59 Z49.length Z60 : Value).ownBlock ∧ k_ ≠ Z8) (Kd.S_N (Kd.S_bound Z64)) (fun k_ hk_ => ⟨(.inr (Nat.le_trans (below_size bq) hk_.2.1)), (Kd.fresh' (Kd.N_lt (by (with_reducible repeat (first | apply Kd.N_alloc | apply Kd.N_drewN | apply Kd.N_drew)); exact Z53.out)) k_ hk_.2.1), (Kd.freshB (g := Z8) (o := .cells #[.bool a1_0, .string a1_1, .slice A1_2 l1_2.length c1_2] 55 (0, 0)) (bk Z10) k_ hk_.2.1)⟩)) (below_size bq)); replace Z15 := ra (Kd.V_elder' (vq Z15) (Kd.S_base Z64) hb); replace Z53 := ra (Kd.N_elder' (by (with_reducible repeat (first | apply Kd.N_alloc | apply Kd.N_drewN | apply Kd.N_drew)); exact Z53.out) (Kd.S_base Z64) hb); replace Z16 := ra (Kd.V_elder' (vq Z16) (Kd.S_base Z64) hb); replace Z10 := bb (bk Z10) hb; replace HB := bs hb; clear hb Z64))
               repeat (go_quiet (first | (go_at_call 69; (with_reducible refine (spec_l2List.calls _ _ _ _ _ _ ?side1 ?side2 Z58.out).mono ?_); (case side1 => repeat (first | exact (Kd.N_reads' Z53.out).2.2 | (with_reducible refine Kd.C_alloc ?_ _) | (with_reducible refine Kd.C_drewN ?_ _) | (with_reducible refine Kd.C_drew ?_))); (case side2 => exact (Kd.N_reads' Z53.out).2.1); rintro e Z62 ⟨Z63, rfl, Z64, hb⟩; have Z65 := ra (Kd.S_lower Z64 (below_size (by repeat (first | (with_reducible first | exact HB.out | apply below_alloc | apply pw_below_drewN | apply below_drew1 | refine below_set ?_ (Aside0.out (by assumption))) | exact HB.out)))); have Z66 := ra (Kd.N_lower (Kd.N_mono (ok' := fun k_ => ((P0_ k_ ∨ P1_2_ k_) ∨ w.heap.size ≤ k_) ∧ some k_ ≠ (.slice Z59 Z49.length Z60 : Value).ownBlock ∧ k_ ≠ Z8) (Kd.S_N (Kd.S_bound Z64)) (fun k_ hk_ => ⟨(.inr (Nat.le_trans (below_size bq) hk_.2.1)), (Kd.fresh' (Kd.N_lt (by (with_reducible repeat (first | apply Kd.N_alloc | apply Kd.N_drewN | apply Kd.N_drew)); exact Z53.out)) k_ hk_.2.1), (Kd.freshB (g := Z8) (o := .cells #[.bool a1_0, .string a1_1, .slice A1_2 l1_2.length c1_2] 55 (0, 0)) (bk Z10) k_ hk_.2.1)⟩)) (below_size bq)); replace Z15 := ra (Kd.V_elder' (vq Z15) (Kd.S_base Z64) hb); replace Z53 := ra (Kd.N_elder' (by (with_reducible repeat (first | apply Kd.N_alloc | apply Kd.N_drewN | apply Kd.N_drew)); exact Z53.out) (Kd.S_base Z64) hb); replace Z16 := ra (Kd.V_elder' (vq Z16) (Kd.S_base Z64) hb); replace Z10 := bb (bk Z10) hb; replace HB := bs hb; clear hb Z64)); try go_wp2_with (first | (go_at_call 69; (with_reducible refine (spec_l2List.calls _ _ _ _ _ _ ?side1 ?side2 Z58.out).mono ?_); (case side1 => repeat (first | exact (Kd.N_reads' Z53.out).2.2 | (with_reducible refine Kd.C_alloc ?_ _) | (with_reducible refine Kd.C_drewN ?_ _) | (with_reducible refine Kd.C_drew ?_))); (case side2 => exact (Kd.N_reads' Z53.out).2.1); rintro e Z62 ⟨Z63, rfl, Z64, hb⟩; have Z65 := ra (Kd.S_lower Z64 (below_size (by repeat (first | (with_reducible first | exact HB.out | apply below_alloc | apply pw_below_drewN | apply below_drew1 | refine below_set ?_ (Aside0.out (by assumption))) | exact HB.out)))); have Z66 := ra (Kd.N_lower (Kd.N_mono (ok' := fun k_ => ((P0_ k_ ∨ P1_2_ k_) ∨ w.heap.size ≤ k_) ∧ some k_ ≠ (.slice Z59 Z49.length Z60 : Value).ownBlock ∧ k_ ≠ Z8) (Kd.S_N (Kd.S_bound Z64)) (fun k_ hk_ => ⟨(.inr (Nat.le_trans (below_size bq) hk_.2.1)), (Kd.fresh' (Kd.N_lt (by (with_reducible repeat (first | apply Kd.N_alloc | apply Kd.N_drewN | apply Kd.N_drew)); exact Z53.out)) k_ hk_.2.1), (Kd.freshB (g := Z8) (o := .cells #[.bool a1_0, .string a1_1, .slice A1_2 l1_2.length c1_2] 55 (0, 0)) (bk Z10) k_ hk_.2.1)⟩)) (below_size bq)); replace Z15 := ra (Kd.V_elder' (vq Z15) (Kd.S_base Z64) hb); replace Z53 := ra (Kd.N_elder' (by (with_reducible repeat (first | apply Kd.N_alloc | apply Kd.N_drewN | apply Kd.N_drew)); exact Z53.out) (Kd.S_base Z64) hb); replace Z16 := ra (Kd.V_elder' (vq Z16) (Kd.S_base Z64) hb); replace Z10 := bb (bk Z10) hb; replace HB := bs hb; clear hb Z64)))
               go_ret2
               exact ⟨_, re, by (with_reducible repeat (first | apply Kd.S_alloc | apply Kd.S_drewN | apply Kd.S_drew)); exact Z65.out, bq⟩
              ·by_cases Z57 : Z49.length < 3518437208883
               ·rw [if_pos Z57] at H
                have Z58 := ra Z57; clear Z57
                obtain ⟨Z59, hy_⟩ : ∃ y_ : List (S33), y_ = (Z49 ++ [(⟨a1_1, l1_2⟩ : S33)]) := ⟨_, rfl⟩
                replace H : ((spec_l2List.f Z54 Z59).bind fun t196 => (some (t196, 0))) = some (r1, r2) := yh
                have Z60 := ra hy_
                clear hy_
                obtain ⟨Z61, Z62, H⟩ := bo H
                simp only [Option.some.injEq, Prod.mk.injEq] at H
                obtain ⟨rfl, rfl⟩ := H
                have Z63 : wr.cell? ⟨Z8, 0, none⟩ = some (.bool a1_0) := (blk_cell Z10.out 0).trans rfl
                have Z64 : wr.cell? ⟨Z8, 1, none⟩ = some (.string a1_1) := (blk_cell Z10.out 1).trans rfl
                have Z65 : wr.cell? ⟨Z8, 2, none⟩ = some (.slice A1_2 l1_2.length c1_2) := (blk_cell Z10.out 2).trans rfl
                have Z66 := blk_frozen Z10.out 0
                have Z67 := blk_frozen Z10.out 1
                have Z68 := blk_frozen Z10.out 2
                go_wp2_with (first | ((with_reducible refine gate_builtin (b := .append) (xs := #[.tmp 91, .tmp 94]) rfl ?_); (try (refine gate_guard (by rfl) ?_; dsimp only)); at_builtin; refine Kd.N_append k33 (w0 := w) w.heap.size rfl (.tmp 91) (.tmp 94) 30 33 (.agg #[(.string ⟨#[]⟩), (.slice none 0 0)]) 40 rfl Tryz.underlying30 info33 rfl (by decide) (by omega) u7 Z49 (⟨a1_1, l1_2⟩ : S33) [.string a1_1, .slice A1_2 l1_2.length c1_2] (fun k_ => ((P0_ k_ ∨ P1_2_ k_) ∨ w.heap.size ≤ k_) ∧ k_ ≠ Z8) (fun k_ => ((fun k_ => ((P0_ k_ ∨ P1_2_ k_) ∨ w.heap.size ≤ k_) ∧ k_ ≠ Z8)) k_ ∧ some k_ ≠ (u7 : Value).ownBlock) rfl rfl ?aP (fun _ hk => hk) ?aF ?aO ?aB ?aS ?aL ?_; (case aP => exact (k33_mkF _ _ (⟨a1_1, l1_2⟩ : S33) (Kd.V_reads' (Kd.V_mono (ok' := (fun k_ => ((fun k_ => ((P0_ k_ ∨ P1_2_ k_) ∨ w.heap.size ≤ k_) ∧ k_ ≠ Z8)) k_ ∧ some k_ ≠ (u7 : Value).ownBlock)) (Z16.out) (fun k_ hk => ⟨⟨hk.1, hk.2.2⟩, hk.2.1⟩))).2.1 (Kd.V_F (Kd.V_mono (ok' := (fun k_ => ((fun k_ => ((P0_ k_ ∨ P1_2_ k_) ∨ w.heap.size ≤ k_) ∧ k_ ≠ Z8)) k_ ∧ some k_ ≠ (u7 : Value).ownBlock)) (Z16.out) (fun k_ hk => ⟨⟨hk.1, hk.2.2⟩, hk.2.1⟩))))); (case aB => exact bq); (case aF => exact (fun k_ hk => ⟨(.inr (Nat.le_trans (below_size bq) hk)), Kd.freshB (g := Z8) (o := .cells #[.bool a1_0, .string a1_1, .slice A1_2 l1_2.length c1_2] 55 (0, 0)) (bk Z10) k_ hk⟩)); (case aO => exact (by (with_reducible repeat (first | apply Kd.N_alloc | apply Kd.N_drewN | apply Kd.N_drew)); exact Z53.out)); (case aS => exact (below_size bq)); (case aL => have := Z58.out; omega); intro Z69 Z70 ho hb hg hat; rw [← Z60.out] at ho; have _ := ra (Kd.V_afterv (ok := (fun k_ => ((P0_ k_ ∨ P1_2_ k_) ∨ w.heap.size ≤ k_) ∧ k_ ≠ Z8)) (vr (Kd.V_mono Z15.out (fun _ hk => ⟨⟨hk.1, hk.2.2⟩, hk.2.1⟩))) hg hat); have _ := ra (Kd.V_afterv (ok := (fun k_ => ((P0_ k_ ∨ P1_2_ k_) ∨ w.heap.size ≤ k_) ∧ k_ ≠ Z8)) (vr (Kd.V_mono Z16.out (fun _ hk => ⟨⟨hk.1, hk.2.2⟩, hk.2.1⟩))) hg hat); have _ := ra (blk_grown (g := Z8) (o := .cells #[.bool a1_0, .string a1_1, .slice A1_2 l1_2.length c1_2] 55 (0, 0)) (bk Z10) hg (Kd.N_ne Z53.out Z10.out (by decide))); have _ := ra (hb); have _ := ra (ho); clear Z15 Z16 Z10 HB Z53; rename_i Z15 Z16 Z10 HB Z71; clear ho hb hg hat; obtain ⟨Z72, Z73, Z74⟩ := Kd.N_slice Z71.out; subst Z74) | (go_at_call 69; (with_reducible refine (spec_l2List.calls _ _ _ _ _ _ ?side1 ?side2 Z62.out).mono ?_); (case side1 => repeat (first | exact (Kd.N_reads' Z71.out).2.2 | (with_reducible refine Kd.C_alloc ?_ _) | (with_reducible refine Kd.C_drewN ?_ _) | (with_reducible refine Kd.C_drew ?_))); (case side2 => exact (Kd.N_reads' Z71.out).2.1); rintro e Z75 ⟨Z76, rfl, Z77, hb⟩; have Z78 := ra (Kd.S_lower Z77 (below_size (by repeat (first | (with_reducible first | exact HB.out | apply below_alloc | apply pw_below_drewN | apply below_drew1 | refine below_set ?_ (Aside0.out (by assumption))) | exact HB.out)))); have Z79 := ra (Kd.N_lower (Kd.N_mono (ok' := fun k_ => ((P0_ k_ ∨ P1_2_ k_) ∨ w.heap.size ≤ k_) ∧ some k_ ≠ (.slice Z72 Z59.length Z73 : Value).ownBlock ∧ k_ ≠ Z8) (Kd.S_N (Kd.S_bound Z77)) (fun k_ hk_ => ⟨(.inr (Nat.le_trans (below_size bq) hk_.2.1)), (Kd.fresh' (Kd.N_lt (by (with_reducible repeat (first | apply Kd.N_alloc | apply Kd.N_drewN | apply Kd.N_drew)); exact Z71.out)) k_ hk_.2.1), (Kd.freshB (g := Z8) (o := .cells #[.bool a1_0, .string a1_1, .slice A1_2 l1_2.length c1_2] 55 (0, 0)) (bk Z10) k_ hk_.2.1)⟩)) (below_size bq)); replace Z15 := ra (Kd.V_elder' (vq Z15) (Kd.S_base Z77) hb); replace Z16 := ra (Kd.V_elder' (vq Z16) (Kd.S_base Z77) hb); replace Z71 := ra (Kd.N_elder' (by (with_reducible repeat (first | apply Kd.N_alloc | apply Kd.N_drewN | apply Kd.N_drew)); exact Z71.out) (Kd.S_base Z77) hb); replace Z10 := bb (bk Z10) hb; replace HB := bs hb; clear hb Z77))
                repeat (go_quiet (first | ((with_reducible refine gate_builtin (b := .append) (xs := #[.tmp 91, .tmp 94]) rfl ?_); (try (refine gate_guard (by rfl) ?_; dsimp only)); at_builtin; refine Kd.N_append k33 (w0 := w) w.heap.size rfl (.tmp 91) (.tmp 94) 30 33 (.agg #[(.string ⟨#[]⟩), (.slice none 0 0)]) 40 rfl Tryz.underlying30 info33 rfl (by decide) (by omega) u7 Z49 (⟨a1_1, l1_2⟩ : S33) [.string a1_1, .slice A1_2 l1_2.length c1_2] (fun k_ => ((P0_ k_ ∨ P1_2_ k_) ∨ w.heap.size ≤ k_) ∧ k_ ≠ Z8) (fun k_ => ((fun k_ => ((P0_ k_ ∨ P1_2_ k_) ∨ w.heap.size ≤ k_) ∧ k_ ≠ Z8)) k_ ∧ some k_ ≠ (u7 : Value).ownBlock) rfl rfl ?aP (fun _ hk => hk) ?aF ?aO ?aB ?aS ?aL ?_; (case aP => exact (k33_mkF _ _ (⟨a1_1, l1_2⟩ : S33) (Kd.V_reads' (Kd.V_mono (ok' := (fun k_ => ((fun k_ => ((P0_ k_ ∨ P1_2_ k_) ∨ w.heap.size ≤ k_) ∧ k_ ≠ Z8)) k_ ∧ some k_ ≠ (u7 : Value).ownBlock)) (Z16.out) (fun k_ hk => ⟨⟨hk.1, hk.2.2⟩, hk.2.1⟩))).2.1 (Kd.V_F (Kd.V_mono (ok' := (fun k_ => ((fun k_ => ((P0_ k_ ∨ P1_2_ k_) ∨ w.heap.size ≤ k_) ∧ k_ ≠ Z8)) k_ ∧ some k_ ≠ (u7 : Value).ownBlock)) (Z16.out) (fun k_ hk => ⟨⟨hk.1, hk.2.2⟩, hk.2.1⟩))))); (case aB => exact bq); (case aF => exact (fun k_ hk => ⟨(.inr (Nat.le_trans (below_size bq) hk)), Kd.freshB (g := Z8) (o := .cells #[.bool a1_0, .string a1_1, .slice A1_2 l1_2.length c1_2] 55 (0, 0)) (bk Z10) k_ hk⟩)); (case aO => exact (by (with_reducible repeat (first | apply Kd.N_alloc | apply Kd.N_drewN | apply Kd.N_drew)); exact Z53.out)); (case aS => exact (below_size bq)); (case aL => have := Z58.out; omega); intro Z69 Z70 ho hb hg hat; rw [← Z60.out] at ho; have _ := ra (Kd.V_afterv (ok := (fun k_ => ((P0_ k_ ∨ P1_2_ k_) ∨ w.heap.size ≤ k_) ∧ k_ ≠ Z8)) (vr (Kd.V_mono Z15.out (fun _ hk => ⟨⟨hk.1, hk.2.2⟩, hk.2.1⟩))) hg hat); have _ := ra (Kd.V_afterv (ok := (fun k_ => ((P0_ k_ ∨ P1_2_ k_) ∨ w.heap.size ≤ k_) ∧ k_ ≠ Z8)) (vr (Kd.V_mono Z16.out (fun _ hk => ⟨⟨hk.1, hk.2.2⟩, hk.2.1⟩))) hg hat); have _ := ra (blk_grown (g := Z8) (o := .cells #[.bool a1_0, .string a1_1, .slice A1_2 l1_2.length c1_2] 55 (0, 0)) (bk Z10) hg (Kd.N_ne Z53.out Z10.out (by decide))); have _ := ra (hb); have _ := ra (ho); clear Z15 Z16 Z10 HB Z53; rename_i Z15 Z16 Z10 HB Z71; clear ho hb hg hat; obtain ⟨Z72, Z73, Z74⟩ := Kd.N_slice Z71.out; subst Z74) | (go_at_call 69; (with_reducible refine (spec_l2List.calls _ _ _ _ _ _ ?side1 ?side2 Z62.out).mono ?_); (case side1 => repeat (first | exact (Kd.N_reads' Z71.out).2.2 | (with_reducible refine Kd.C_alloc ?_ _) | (with_reducible refine Kd.C_drewN ?_ _) | (with_reducible refine Kd.C_drew ?_))); (case side2 => exact (Kd.N_reads' Z71.out).2.1); rintro e Z75 ⟨Z76, rfl, Z77, hb⟩; have Z78 := ra (Kd.S_lower Z77 (below_size (by repeat (first | (with_reducible first | exact HB.out | apply below_alloc | apply pw_below_drewN | apply below_drew1 | refine below_set ?_ (Aside0.out (by assumption))) | exact HB.out)))); have Z79 := ra (Kd.N_lower (Kd.N_mono (ok' := fun k_ => ((P0_ k_ ∨ P1_2_ k_) ∨ w.heap.size ≤ k_) ∧ some k_ ≠ (.slice Z72 Z59.length Z73 : Value).ownBlock ∧ k_ ≠ Z8) (Kd.S_N (Kd.S_bound Z77)) (fun k_ hk_ => ⟨(.inr (Nat.le_trans (below_size bq) hk_.2.1)), (Kd.fresh' (Kd.N_lt (by (with_reducible repeat (first | apply Kd.N_alloc | apply Kd.N_drewN | apply Kd.N_drew)); exact Z71.out)) k_ hk_.2.1), (Kd.freshB (g := Z8) (o := .cells #[.bool a1_0, .string a1_1, .slice A1_2 l1_2.length c1_2] 55 (0, 0)) (bk Z10) k_ hk_.2.1)⟩)) (below_size bq)); replace Z15 := ra (Kd.V_elder' (vq Z15) (Kd.S_base Z77) hb); replace Z16 := ra (Kd.V_elder' (vq Z16) (Kd.S_base Z77) hb); replace Z71 := ra (Kd.N_elder' (by (with_reducible repeat (first | apply Kd.N_alloc | apply Kd.N_drewN | apply Kd.N_drew)); exact Z71.out) (Kd.S_base Z77) hb); replace Z10 := bb (bk Z10) hb; replace HB := bs hb; clear hb Z77)); try go_wp2_with (first | ((with_reducible refine gate_builtin (b := .append) (xs := #[.tmp 91, .tmp 94]) rfl ?_); (try (refine gate_guard (by rfl) ?_; dsimp only)); at_builtin; refine Kd.N_append k33 (w0 := w) w.heap.size rfl (.tmp 91) (.tmp 94) 30 33 (.agg #[(.string ⟨#[]⟩), (.slice none 0 0)]) 40 rfl Tryz.underlying30 info33 rfl (by decide) (by omega) u7 Z49 (⟨a1_1, l1_2⟩ : S33) [.string a1_1, .slice A1_2 l1_2.length c1_2] (fun k_ => ((P0_ k_ ∨ P1_2_ k_) ∨ w.heap.size ≤ k_) ∧ k_ ≠ Z8) (fun k_ => ((fun k_ => ((P0_ k_ ∨ P1_2_ k_) ∨ w.heap.size ≤ k_) ∧ k_ ≠ Z8)) k_ ∧ some k_ ≠ (u7 : Value).ownBlock) rfl rfl ?aP (fun _ hk => hk) ?aF ?aO ?aB ?aS ?aL ?_; (case aP => exact (k33_mkF _ _ (⟨a1_1, l1_2⟩ : S33) (Kd.V_reads' (Kd.V_mono (ok' := (fun k_ => ((fun k_ => ((P0_ k_ ∨ P1_2_ k_) ∨ w.heap.size ≤ k_) ∧ k_ ≠ Z8)) k_ ∧ some k_ ≠ (u7 : Value).ownBlock)) (Z16.out) (fun k_ hk => ⟨⟨hk.1, hk.2.2⟩, hk.2.1⟩))).2.1 (Kd.V_F (Kd.V_mono (ok' := (fun k_ => ((fun k_ => ((P0_ k_ ∨ P1_2_ k_) ∨ w.heap.size ≤ k_) ∧ k_ ≠ Z8)) k_ ∧ some k_ ≠ (u7 : Value).ownBlock)) (Z16.out) (fun k_ hk => ⟨⟨hk.1, hk.2.2⟩, hk.2.1⟩))))); (case aB => exact bq); (case aF => exact (fun k_ hk => ⟨(.inr (Nat.le_trans (below_size bq) hk)), Kd.freshB (g := Z8) (o := .cells #[.bool a1_0, .string a1_1, .slice A1_2 l1_2.length c1_2] 55 (0, 0)) (bk Z10) k_ hk⟩)); (case aO => exact (by (with_reducible repeat (first | apply Kd.N_alloc | apply Kd.N_drewN | apply Kd.N_drew)); exact Z53.out)); (case aS => exact (below_size bq)); (case aL => have := Z58.out; omega); intro Z69 Z70 ho hb hg hat; rw [← Z60.out] at ho; have _ := ra (Kd.V_afterv (ok := (fun k_ => ((P0_ k_ ∨ P1_2_ k_) ∨ w.heap.size ≤ k_) ∧ k_ ≠ Z8)) (vr (Kd.V_mono Z15.out (fun _ hk => ⟨⟨hk.1, hk.2.2⟩, hk.2.1⟩))) hg hat); have _ := ra (Kd.V_afterv (ok := (fun k_ => ((P0_ k_ ∨ P1_2_ k_) ∨ w.heap.size ≤ k_) ∧ k_ ≠ Z8)) (vr (Kd.V_mono Z16.out (fun _ hk => ⟨⟨hk.1, hk.2.2⟩, hk.2.1⟩))) hg hat); have _ := ra (blk_grown (g := Z8) (o := .cells #[.bool a1_0, .string a1_1, .slice A1_2 l1_2.length c1_2] 55 (0, 0)) (bk Z10) hg (Kd.N_ne Z53.out Z10.out (by decide))); have _ := ra (hb); have _ := ra (ho); clear Z15 Z16 Z10 HB Z53; rename_i Z15 Z16 Z10 HB Z71; clear ho hb hg hat; obtain ⟨Z72, Z73, Z74⟩ := Kd.N_slice Z71.out; subst Z74) | (go_at_call 69; (with_reducible refine (spec_l2List.calls _ _ _ _ _ _ ?side1 ?side2 Z62.out).mono ?_); (case side1 => repeat (first | exact (Kd.N_reads' Z71.out).2.2 | (with_reducible refine Kd.C_alloc ?_ _) | (with_reducible refine Kd.C_drewN ?_ _) | (with_reducible refine Kd.C_drew ?_))); (case side2 => exact (Kd.N_reads' Z71.out).2.1); rintro e Z75 ⟨Z76, rfl, Z77, hb⟩; have Z78 := ra (Kd.S_lower Z77 (below_size (by repeat (first | (with_reducible first | exact HB.out | apply below_alloc | apply pw_below_drewN | apply below_drew1 | refine below_set ?_ (Aside0.out (by assumption))) | exact HB.out)))); have Z79 := ra (Kd.N_lower (Kd.N_mono (ok' := fun k_ => ((P0_ k_ ∨ P1_2_ k_) ∨ w.heap.size ≤ k_) ∧ some k_ ≠ (.slice Z72 Z59.length Z73 : Value).ownBlock ∧ k_ ≠ Z8) (Kd.S_N (Kd.S_bound Z77)) (fun k_ hk_ => ⟨(.inr (Nat.le_trans (below_size bq) hk_.2.1)), (Kd.fresh' (Kd.N_lt (by (with_reducible repeat (first | apply Kd.N_alloc | apply Kd.N_drewN | apply Kd.N_drew)); exact Z71.out)) k_ hk_.2.1), (Kd.freshB (g := Z8) (o := .cells #[.bool a1_0, .string a1_1, .slice A1_2 l1_2.length c1_2] 55 (0, 0)) (bk Z10) k_ hk_.2.1)⟩)) (below_size bq)); replace Z15 := ra (Kd.V_elder' (vq Z15) (Kd.S_base Z77) hb); replace Z16 := ra (Kd.V_elder' (vq Z16) (Kd.S_base Z77) hb); replace Z71 := ra (Kd.N_elder' (by (with_reducible repeat (first | apply Kd.N_alloc | apply Kd.N_drewN | apply Kd.N_drew)); exact Z71.out) (Kd.S_base Z77) hb); replace Z10 := bb (bk Z10) hb; replace HB := bs hb; clear hb Z77)))
                go_ret2
                exact ⟨_, re, by (with_reducible repeat (first | apply Kd.S_alloc | apply Kd.S_drewN | apply Kd.S_drew)); exact Z78.out, bq⟩
               ·rw [if_neg Z57] at H
                exact absurd H (by simp)
 ·obtain ⟨Z7, hy_⟩ : ∃ y_ : List (S33), y_ = (([] : List (S33))) := ⟨_, rfl⟩
  replace H : (some (Z7, 1)) = some (r1, r2) := yh
  have Z8 := ra hy_
  clear hy_
  simp only [Option.some.injEq, Prod.mk.injEq] at H
  obtain ⟨rfl, rfl⟩ := H
  go_enter Tryz.func46, Tryz.ntmps46
  go_wp2_with (first | ((with_reducible refine gd 3 rfl ?_); (try (refine gate_guard (by rfl) ?_; dsimp only)); refine bf 3 #[.bool a1_0, .string a1_1, .slice A1_2 l1_2.length c1_2] 55 ?_; intro Z9 Z10 hg hb HB Z11 Z12; replace Z2 := ra (Kd.V_below (Kd.V_elderB (vq Z2) Z9 (Nat.le_of_eq hg.symm)) hb); replace Z3 := ra (Kd.V_below (Kd.V_elderB (vq Z3) Z9 (Nat.le_of_eq hg.symm)) hb); clear hg hb) | (go_at_call 48; (with_reducible refine (spec_ProbeSkyOk.calls _ _ _ _ _ _ ?side1 ?side2 Z5.out).mono ?_); (case side1 => exact sv Z2); (case side2 => exact (Kd.V_reads' Z2.out).2.1); rintro e Z13 ⟨rfl, hb⟩; replace Z2 := ra (Kd.V_below (vq Z2) hb); replace Z3 := ra (Kd.V_below (vq Z3) hb); replace Z11 := bb (bk Z11) hb; replace HB := bs hb; clear hb) | ((with_reducible refine gd 13 rfl ?_); (try (refine gate_guard (by rfl) ?_; dsimp only)); refine Kd.N_lit k33 _ 33 ?hg (N' := 13) ?hd (xs := ([] : List (S33))) (inner := []) (ok := (fun k_ => ((P0_ k_ ∨ P1_2_ k_) ∨ w.heap.size ≤ k_) ∧ k_ ≠ Z9)) (okp := (fun k_ => ((P0_ k_ ∨ P1_2_ k_) ∨ w.heap.size ≤ k_) ∧ k_ ≠ Z9)) ?hr ?hp (fun _ hk => hk) ((show ∀ k_, Z13.heap.size ≤ k_ → (fun k_ => ((P0_ k_ ∨ P1_2_ k_) ∨ w.heap.size ≤ k_) ∧ k_ ≠ Z9) k_ from fun k_ hk => ⟨(.inr (Nat.le_trans (below_size bq) hk)), Kd.freshB (g := Z9) (o := .cells #[.bool a1_0, .string a1_1, .slice A1_2 l1_2.length c1_2] 55 (0, 0)) (bk Z11) k_ hk⟩) _ (Nat.le_refl _)) (Below.refl _ _) (Nat.le_refl _) (by simp) ?_; (case hd => rfl); (case hg => rfl); (case hr => first | (go_simp; done) | (go_simp; rfl)); (case hp => exact (Reps.none _ _)); intro Z14 Z15 Z16 hb hg_ hnew_; clear hg_ hnew_; (first | rw [← Z8.out] at Z16 | (simp only [Int.reduceToNat] at Z16; rw [← Z8.out] at Z16)); have Z17 := ra (Kd.N_lower Z16 (below_size bq)); replace Z2 := ra (Kd.V_elder' (vq Z2) (Kd.N_base Z16) hb); replace Z3 := ra (Kd.V_elder' (vq Z3) (Kd.N_base Z16) hb); replace Z11 := bb (bk Z11) hb; replace HB := bs hb; clear hb Z16))
  repeat (go_quiet (first | ((with_reducible refine gd 3 rfl ?_); (try (refine gate_guard (by rfl) ?_; dsimp only)); refine bf 3 #[.bool a1_0, .string a1_1, .slice A1_2 l1_2.length c1_2] 55 ?_; intro Z9 Z10 hg hb HB Z11 Z12; replace Z2 := ra (Kd.V_below (Kd.V_elderB (vq Z2) Z9 (Nat.le_of_eq hg.symm)) hb); replace Z3 := ra (Kd.V_below (Kd.V_elderB (vq Z3) Z9 (Nat.le_of_eq hg.symm)) hb); clear hg hb) | (go_at_call 48; (with_reducible refine (spec_ProbeSkyOk.calls _ _ _ _ _ _ ?side1 ?side2 Z5.out).mono ?_); (case side1 => exact sv Z2); (case side2 => exact (Kd.V_reads' Z2.out).2.1); rintro e Z13 ⟨rfl, hb⟩; replace Z2 := ra (Kd.V_below (vq Z2) hb); replace Z3 := ra (Kd.V_below (vq Z3) hb); replace Z11 := bb (bk Z11) hb; replace HB := bs hb; clear hb) | ((with_reducible refine gd 13 rfl ?_); (try (refine gate_guard (by rfl) ?_; dsimp only)); refine Kd.N_lit k33 _ 33 ?hg (N' := 13) ?hd (xs := ([] : List (S33))) (inner := []) (ok := (fun k_ => ((P0_ k_ ∨ P1_2_ k_) ∨ w.heap.size ≤ k_) ∧ k_ ≠ Z9)) (okp := (fun k_ => ((P0_ k_ ∨ P1_2_ k_) ∨ w.heap.size ≤ k_) ∧ k_ ≠ Z9)) ?hr ?hp (fun _ hk => hk) ((show ∀ k_, Z13.heap.size ≤ k_ → (fun k_ => ((P0_ k_ ∨ P1_2_ k_) ∨ w.heap.size ≤ k_) ∧ k_ ≠ Z9) k_ from fun k_ hk => ⟨(.inr (Nat.le_trans (below_size bq) hk)), Kd.freshB (g := Z9) (o := .cells #[.bool a1_0, .string a1_1, .slice A1_2 l1_2.length c1_2] 55 (0, 0)) (bk Z11) k_ hk⟩) _ (Nat.le_refl _)) (Below.refl _ _) (Nat.le_refl _) (by simp) ?_; (case hd => rfl); (case hg => rfl); (case hr => first | (go_simp; done) | (go_simp; rfl)); (case hp => exact (Reps.none _ _)); intro Z14 Z15 Z16 hb hg_ hnew_; clear hg_ hnew_; (first | rw [← Z8.out] at Z16 | (simp only [Int.reduceToNat] at Z16; rw [← Z8.out] at Z16)); have Z17 := ra (Kd.N_lower Z16 (below_size bq)); replace Z2 := ra (Kd.V_elder' (vq Z2) (Kd.N_base Z16) hb); replace Z3 := ra (Kd.V_elder' (vq Z3) (Kd.N_base Z16) hb); replace Z11 := bb (bk Z11) hb; replace HB := bs hb; clear hb Z16)); try go_wp2_with (first | ((with_reducible refine gd 3 rfl ?_); (try (refine gate_guard (by rfl) ?_; dsimp only)); refine bf 3 #[.bool a1_0, .string a1_1, .slice A1_2 l1_2.length c1_2] 55 ?_; intro Z9 Z10 hg hb HB Z11 Z12; replace Z2 := ra (Kd.V_below (Kd.V_elderB (vq Z2) Z9 (Nat.le_of_eq hg.symm)) hb); replace Z3 := ra (Kd.V_below (Kd.V_elderB (vq Z3) Z9 (Nat.le_of_eq hg.symm)) hb); clear hg hb) | (go_at_call 48; (with_reducible refine (spec_ProbeSkyOk.calls _ _ _ _ _ _ ?side1 ?side2 Z5.out).mono ?_); (case side1 => exact sv Z2); (case side2 => exact (Kd.V_reads' Z2.out).2.1); rintro e Z13 ⟨rfl, hb⟩; replace Z2 := ra (Kd.V_below (vq Z2) hb); replace Z3 := ra (Kd.V_below (vq Z3) hb); replace Z11 := bb (bk Z11) hb; replace HB := bs hb; clear hb) | ((with_reducible refine gd 13 rfl ?_); (try (refine gate_guard (by rfl) ?_; dsimp only)); refine Kd.N_lit k33 _ 33 ?hg (N' := 13) ?hd (xs := ([] : List (S33))) (inner := []) (ok := (fun k_ => ((P0_ k_ ∨ P1_2_ k_) ∨ w.heap.size ≤ k_) ∧ k_ ≠ Z9)) (okp := (fun k_ => ((P0_ k_ ∨ P1_2_ k_) ∨ w.heap.size ≤ k_) ∧ k_ ≠ Z9)) ?hr ?hp (fun _ hk => hk) ((show ∀ k_, Z13.heap.size ≤ k_ → (fun k_ => ((P0_ k_ ∨ P1_2_ k_) ∨ w.heap.size ≤ k_) ∧ k_ ≠ Z9) k_ from fun k_ hk => ⟨(.inr (Nat.le_trans (below_size bq) hk)), Kd.freshB (g := Z9) (o := .cells #[.bool a1_0, .string a1_1, .slice A1_2 l1_2.length c1_2] 55 (0, 0)) (bk Z11) k_ hk⟩) _ (Nat.le_refl _)) (Below.refl _ _) (Nat.le_refl _) (by simp) ?_; (case hd => rfl); (case hg => rfl); (case hr => first | (go_simp; done) | (go_simp; rfl)); (case hp => exact (Reps.none _ _)); intro Z14 Z15 Z16 hb hg_ hnew_; clear hg_ hnew_; (first | rw [← Z8.out] at Z16 | (simp only [Int.reduceToNat] at Z16; rw [← Z8.out] at Z16)); have Z17 := ra (Kd.N_lower Z16 (below_size bq)); replace Z2 := ra (Kd.V_elder' (vq Z2) (Kd.N_base Z16) hb); replace Z3 := ra (Kd.V_elder' (vq Z3) (Kd.N_base Z16) hb); replace Z11 := bb (bk Z11) hb; replace HB := bs hb; clear hb Z16)))
  go_ret2
  exact ⟨_, re, by (with_reducible repeat (first | apply Kd.S_alloc | apply Kd.S_drewN | apply Kd.S_drew)); have h_ := Z17.out; rw [Z8.out] at h_ ⊢; exact Z.N_nil_S h_, bq⟩
def spec_l7Dec.T3 : Bool × List (List Nat × List Nat) := (true, [([], []), ([0], [0]), ([1], [1]), ([], []), ([3], [3]), ([4], [4]), ([5], [5]), ([6], [6]), ([7], [7]), ([2, 8], [2, 8]), ([9, 2, 0, 1, 2, 3, 4, 5, 6, 7, 8, 9], [9])])
def spec_l7Dec.B3 : List Nat := [0, 1, 3, 0, 8, 24, 56, 120, 248, 511, 1023]
theorem spec_l7Dec.tab3 : rtab .any (opsOf Tryz.f15 3) = spec_l7Dec.T3 := by kernel_rfl
theorem spec_l7Dec.bits3 : waitsOk spec_l7Dec.T3.2 spec_l7Dec.B3 = true := by kernel_rfl
theorem spec_l7Dec.calls (k : Nat) : ∀ (a0 : Int) (r : ByteArray) (w : World) (h : spec_l7Dec.f k a0 = some r),
  Calls Tryz.prog 15 #[.int .i64 a0] w fun e w' => e = .returned (.string r) ∧ Below w.heap.size w w' := by
 induction k using Nat.strongRecOn with
 | _ k ih =>
 intro Z0 r w h
 cases k with
 | zero => exact absurd h (by simp [spec_l7Dec.f])
 | succ k =>
 simp only [spec_l7Dec.f] at h
 have HB := ra (Below.refl w.heap.size w)
 have H : (if Z0 < 10 then (some (strOfNums (([(wrap64 (48 + Z0)) % 256] : List Int)))) else ((spec_l7Dec.f k (wrap64 (Int.tdiv Z0 10))).bind fun t113 => ((some (([(wrap64 (48 + (Int.tmod Z0 10))) % 256] : List Int) : List Int)).bind fun y114 => (if t113.size + (strOfNums y114).size ≤ 9223372036854775807 then (some (t113 ++ (strOfNums y114))) else (none))))) = some r := h
 clear h
 rcases td H with ⟨Z1, H⟩ | ⟨Z1, H⟩
 ·obtain ⟨Z2, hy_⟩ : ∃ y_ : List Int, y_ = (([(wrap64 (48 + Z0)) % 256] : List Int)) := ⟨_, rfl⟩
  replace H : (some (strOfNums Z2)) = some r := yh
  have Z3 := ra hy_
  clear hy_
  obtain rfl := Option.some.inj H
  go_enter Tryz.func15, Tryz.ntmps15
  go_wp2_with (first | ((with_reducible refine gd 8 rfl ?_); refine Kd.R_lit (Kd.int .u8) _ 5 ?hg (N := 8) ?hd (xs := ([(wrap64 (48 + Z0)) % 256] : List Int)) (inner := [.int .u8 ((wrap64 (48 + Z0)) % 256)]) (ok := fun _ => True) (okp := fun _ => True) ?hr ?hp (fun _ hk => hk) trivial (Below.refl _ _) (Nat.le_refl _) (by simp) ?_; (case hd => rfl); (case hg => rfl); (case hr => first | (go_simp; done) | (go_simp; rfl)); (case hp => exact (Reps.one (show Kd.M (Kd.int .u8) _ _ _ ((wrap64 (48 + Z0)) % 256) [.int .u8 ((wrap64 (48 + Z0)) % 256)] from rfl) (Reps.none _ _))); intro Z4 Z5 Z6 hb hg_ hnew_; clear hg_ hnew_; (first | rw [← Z3.out] at Z6 | (simp only [Int.reduceToNat] at Z6; rw [← Z3.out] at Z6)); have Z7 := ra (Kd.R_lower Z6 (below_size bq)); replace HB := bs hb; clear hb Z6; have Z8 := own_string (P := Tryz.prog) Tryz.underlying24 Tryz.underlying5 Tryz.underlying9 (Kd.own_of_R Z7.out)))
  go_ret
  exact ⟨re, bq⟩
 ·obtain ⟨Z2, Z3, H⟩ := bo H
  obtain ⟨Z4, hy_⟩ : ∃ y_ : List Int, y_ = (([(wrap64 (48 + (Int.tmod Z0 10))) % 256] : List Int)) := ⟨_, rfl⟩
  replace H : (if Z2.size + (strOfNums Z4).size ≤ 9223372036854775807 then (some (Z2 ++ (strOfNums Z4))) else (none)) = some r := yh
  have Z5 := ra hy_
  clear hy_
  by_cases Z6 : Z2.size + (strOfNums Z4).size ≤ 9223372036854775807
  ·rw [if_pos Z6] at H
   have Z7 := eq_true Z6
   have Z8 : decide (Z2.size + (strOfNums Z4).size ≤ 9223372036854775807) = true := decide_eq_true Z6
   try have Z9 : (9223372036854775807 < Z2.size + (strOfNums Z4).size) = False := eq_false (Nat.not_lt.2 Z6)
   obtain rfl := Option.some.inj H
   go_enter Tryz.func15, Tryz.ntmps15
   try go_wp2
   have _ := ra (below_drew1 HB.out)
   clear HB
   rename_i HB
   refine start_ (n := 11) (S := fun w' => True) (ds := []) (bl 11 0) (by kernel_rfl) rfl rfl trivial (fun hHeld => ?_); refine with_tabW spec_l7Dec.tab3 spec_l7Dec.bits3 (fun HT_ HW_ => ?_)
   generalize w.drew = Z10 at HB hHeld ⊢
   refine pu 0 10 (bl 11 1) ?_
   refine pu 1 11 (bl 11 3) ?_
   refine pu 3 13 (bl 11 11) ?_
   refine pu 4 14 (bl 11 27) ?_
   refine pu 5 15 (bl 11 59) ?_
   refine pu 6 16 (bl 11 123) ?_
   refine join_ (σ := Value) 2 #[true, true, true, true, true, true, true, true, true, false, false] (fun s_ => [(12, .string Z2), (17, s_), (18, .string (strOfNums Z4))]) (fun s_ w' => (Kd.R (Kd.int .u8) 5 w' w.heap.size (fun _ => True) s_ Z4) ∧ (Below w.heap.size w w')) ?_ ?_
   rotate_left
   ·intro hCont
    refine two_ (i := 2) (j := 7) (Ni := some 12) (Nj := some 17) #[true, true, true, true, true, true, true, false, false, false, false] #[true, true, false, true, true, true, true, true, false, false, false] rfl rfl rfl rfl (two_of HT_.out (by kernel_rfl)) (by decide) (by decide) (fun K hK => ?_) (fun K hK => ?_)
    ·skip
     refine gs Tryz.func15 #[.int .i64 (wrap64 (Int.tdiv Z0 10))] ?_
     with_reducible refine (ih k (by omega) (wrap64 (Int.tdiv Z0 10)) Z2 _ Z3.out).mono ?_
     rintro e Z11 ⟨rfl, hb⟩
     refine ⟨_, rfl, ?_⟩
     have _ := bs hb
     clear HB
     rename_i HB
     (try clear hb)
     refine hK.out _ _ trivial (fun hHeld => ?_)
     clear hK K
     refine nm 12 ?_
     refine oe 7 17 (bl 11 255) (fun K hK => ?_)
     refine Kd.R_lit_step (Kd.int .u8) _ 5 ?hg (N := 17) ?hd (xs := ([(wrap64 (48 + (Int.tmod Z0 10))) % 256] : List Int)) (inner := [.int .u8 ((wrap64 (48 + (Int.tmod Z0 10))) % 256)]) (ok := fun _ => True) (okp := fun _ => True) ?hr ?hp (fun _ hk => hk) trivial (Below.refl _ _) (Nat.le_refl _) (by simp) ?_; (case hd => rfl); (case hg => rfl); (case hr => first | (go_simp; done) | (go_simp; rfl)); (case hp => exact (Reps.one (show Kd.M (Kd.int .u8) _ _ _ ((wrap64 (48 + (Int.tmod Z0 10))) % 256) [.int .u8 ((wrap64 (48 + (Int.tmod Z0 10))) % 256)] from rfl) (Reps.none _ _)))
     intro Z12 Z13 Z14 hb hg_ hnew_
     clear hg_ hnew_
     (first | rw [← Z5.out] at Z14 | (simp only [Int.reduceToNat] at Z14; rw [← Z5.out] at Z14))
     have _ := ra (Kd.R_lower Z14 (below_size bq))
     have _ := bs hb
     clear HB
     rename_i Z15 HB
     clear hb Z14
     refine hK.out _ _ trivial (fun hHeld => ?_)
     clear hK K
     refine nm 17 ?_
     refine oe 8 18 (bl 11 511) (fun K hK => ?_)
     have Z16 := own_string (P := Tryz.prog) Tryz.underlying24 Tryz.underlying5 Tryz.underlying9 (Kd.own_of_R Z15.out)
     refine value_ (w1 := ?_) (v := ?_) (by rfl) rfl ?_ ?_
     rotate_left 2
     ·go_simp
      constructor
      ·rfl
      ·rfl
     clear Z16
     refine hK.out _ _ trivial (fun hHeld => ?_)
     clear hK K
     refine nm 18 ?_
     exact norm_ (by simp only [putAll, Act.put, List.setIfInBounds_toArray, List.set_cons_zero, List.set_cons_succ]) (hCont (Z12) _ ⟨(rq Z15), bq⟩)
    ·skip
     refine Kd.R_lit_step (Kd.int .u8) _ 5 ?hg (N := 17) ?hd (xs := ([(wrap64 (48 + (Int.tmod Z0 10))) % 256] : List Int)) (inner := [.int .u8 ((wrap64 (48 + (Int.tmod Z0 10))) % 256)]) (ok := fun _ => True) (okp := fun _ => True) ?hr ?hp (fun _ hk => hk) trivial (Below.refl _ _) (Nat.le_refl _) (by simp) ?_; (case hd => rfl); (case hg => rfl); (case hr => first | (go_simp; done) | (go_simp; rfl)); (case hp => exact (Reps.one (show Kd.M (Kd.int .u8) _ _ _ ((wrap64 (48 + (Int.tmod Z0 10))) % 256) [.int .u8 ((wrap64 (48 + (Int.tmod Z0 10))) % 256)] from rfl) (Reps.none _ _)))
     intro Z11 Z12 Z13 hb hg_ hnew_
     clear hg_ hnew_
     (first | rw [← Z5.out] at Z13 | (simp only [Int.reduceToNat] at Z13; rw [← Z5.out] at Z13))
     have _ := ra (Kd.R_lower Z13 (below_size bq))
     have _ := bs hb
     clear HB
     rename_i Z14 HB
     clear hb Z13
     refine hK.out _ _ trivial (fun hHeld => ?_)
     clear hK K
     refine nm 17 ?_
     refine two_ (i := 2) (j := 8) (Ni := some 12) (Nj := some 18) #[true, true, true, true, true, true, true, true, false, false, false] #[true, true, false, true, true, true, true, true, true, false, false] rfl rfl rfl rfl (two_of HT_.out (by kernel_rfl)) (by decide) (by decide) (fun K hK => ?_) (fun K hK => ?_)
     ·skip
      refine gs Tryz.func15 #[.int .i64 (wrap64 (Int.tdiv Z0 10))] ?_
      with_reducible refine (ih k (by omega) (wrap64 (Int.tdiv Z0 10)) Z2 _ Z3.out).mono ?_
      rintro e Z15 ⟨rfl, hb⟩
      refine ⟨_, rfl, ?_⟩
      have _ := ra (Kd.R_below (rq Z14) hb)
      have _ := bs hb
      clear Z14 HB
      rename_i Z14 HB
      (try clear hb)
      (try clear hk)
      refine hK.out _ _ trivial (fun hHeld => ?_)
      clear hK K
      refine nm 12 ?_
      refine oe 8 18 (bl 11 511) (fun K hK => ?_)
      have Z16 := own_string (P := Tryz.prog) Tryz.underlying24 Tryz.underlying5 Tryz.underlying9 (Kd.own_of_R Z14.out)
      refine value_ (w1 := ?_) (v := ?_) (by rfl) rfl ?_ ?_
      rotate_left 2
      ·go_simp
       constructor
       ·rfl
       ·rfl
      clear Z16
      refine hK.out _ _ trivial (fun hHeld => ?_)
      clear hK K
      refine nm 18 ?_
      exact norm_ (by simp only [putAll, Act.put, List.setIfInBounds_toArray, List.set_cons_zero, List.set_cons_succ]) (hCont (Z11) _ ⟨(rq Z14), bq⟩)
     ·skip
      have Z15 := own_string (P := Tryz.prog) Tryz.underlying24 Tryz.underlying5 Tryz.underlying9 (Kd.own_of_R Z14.out)
      refine value_ (w1 := ?_) (v := ?_) (by rfl) rfl ?_ ?_
      rotate_left 2
      ·go_simp
       constructor
       ·rfl
       ·rfl
      clear Z15
      refine hK.out _ _ trivial (fun hHeld => ?_)
      clear hK K
      refine nm 18 ?_
      refine oe 2 12 (bl 11 511) (fun K hK => ?_)
      refine gs Tryz.func15 #[.int .i64 (wrap64 (Int.tdiv Z0 10))] ?_
      with_reducible refine (ih k (by omega) (wrap64 (Int.tdiv Z0 10)) Z2 _ Z3.out).mono ?_
      rintro e Z16 ⟨rfl, hb⟩
      refine ⟨_, rfl, ?_⟩
      have _ := ra (Kd.R_below (rq Z14) hb)
      have _ := bs hb
      clear Z14 HB
      rename_i Z14 HB
      (try clear hb)
      (try clear hk)
      refine hK.out _ _ trivial (fun hHeld => ?_)
      clear hK K
      refine nm 12 ?_
      exact norm_ (by simp only [putAll, Act.put, List.setIfInBounds_toArray, List.set_cons_zero, List.set_cons_succ]) (hCont (Z11) _ ⟨(rq Z14), bq⟩)
   rintro Z11 Z12 ⟨Z13, Z14⟩
   have _ : Aside0 (Kd.R (Kd.int .u8) 5 Z12 w.heap.size (fun _ => True) Z11 Z4) := ⟨Z13⟩
   have _ : Aside0 (Below w.heap.size w Z12) := ⟨Z14⟩
   clear HB
   clear Z13 Z14
   rename_i Z15 HB
   have hHeld := trivial
   refine norm_ (a' := ?_) ?_ ?_
   rotate_left
   ·simp only [putAll, Act.put, List.setIfInBounds_toArray, List.set_cons_zero, List.set_cons_succ]
    rfl
   refine pu 9 19 (bl 11 1023) ?_
   refine pu 10 2 (bl 11 2047) ?_
   refine done_ (done_of HT_.out (by kernel_rfl)) ?_
   try go_wp2
   go_ret
   exact ⟨re, bq⟩
  ·rw [if_neg Z6] at H
   exact absurd H (by simp)
end Go.Proofs.YtjelgpmhbaiipaaGreatDoor.PA
end
