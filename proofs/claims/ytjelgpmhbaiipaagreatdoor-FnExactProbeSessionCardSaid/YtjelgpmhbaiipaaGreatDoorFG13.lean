/- Contracts (began as prints of the kit's tool; shortened). No condition beside what the Lean functions say. -/
import Derived.Test.YtjelgpmhbaiipaaGreatDoorFPAd9
import Derived.Test.YtjelgpmhbaiipaaGreatDoorFZCx1
import Derived.Test.YtjelgpmhbaiipaaGreatDoorFZCv2
import Derived.Test.YtjelgpmhbaiipaaGreatDoorFG11
section
namespace Go.Proofs.YtjelgpmhbaiipaaGreatDoor.PA
open Go.RowKit Go.Proofs.YtjelgpmhbaiipaaGreatDoorW.PrintWords Go.Proofs.YtjelgpmhbaiipaaGreatDoorW.PrintLast Go.Proofs.YtjelgpmhbaiipaaGreatDoorW.PrintMore Go.Proofs.YtjelgpmhbaiipaaGreatDoor.Z
attribute [local go_sem] max2_int min2_int max_two min_two max_three min_three max_four min_four
set_option linter.unusedVariables false
set_option maxHeartbeats 8000000
set_option maxRecDepth 100000
set_option linter.unusedSimpArgs false
theorem spec_l7Number.calls (k : Nat) (a0 : ByteArray) (r : Int) (w : World) (h : spec_l7Number.f k a0 = some r) :
  Calls Tryz.prog 44 #[.string a0] w fun e w' => e = .returned (.int .i64 r) ∧ Drawn0 w w' := by
 have H := h; unfold spec_l7Number.f at H
 clear h
 have Z0 := ra H; clear H
 go_enter Tryz.func44, Tryz.ntmps44
 go_upto_region 1 with (fail)
 go_cut [18] (fun v18 wc => ∃ (kq : Nat) (x18_1 : Bool), v18 = .bool x18_1 ∧ Aside0 (spec_l7Number.j0 kq a0 x18_1 = some r) ∧ Aside0 (kq ≤ k) ∧ Drawn0 w wc)
 case first =>
  have H := Z0.out
  clear Z0
  obtain ⟨Z1, Z2, H⟩ := bo H
  rcases ud H with ⟨rfl, Z3⟩ | ⟨rfl, Z3⟩ <;> have H := Z3
  rcases sd H with ⟨Z4, Z5, H⟩ | ⟨Z4, Z5, H⟩
  ·have Z6 : decide (1 < a0.size) = true := decide_eq_true (by omega)
   clear Z4
   (first | rw [Z5] | (simp only [i64_w, i32_w]; rw [Z5]) | skip)
   obtain ⟨Z7, Z8, H⟩ := sn H
   have Z9 : decide (0 < a0.size) = true := decide_eq_true (by omega)
   clear Z7
   have H' := ra H; clear H
   go_wp2_with (first | ((with_reducible refine gc 66 rfl ?_); refine gy (some 7) Tryz.func66 (spec_l1In.calls _ _ _ _ _ Z2.out) ?_; rintro w' ⟨nd, rfl⟩; have Z10 : 0 ≤ (0 : Int) := (by omega); have Z11 : 0 < a0.size := (by have : (0 : Int) < (a0.size : Int) := od; omega); have Z12 : ∀ h : 0 < a0.size, ((a0[0]'h).toNat : Int) = bt a0 0 := bt_at a0 0; clear Z10; have Z13 : (0 < (a0.size : Int)) = True := eq_true (od); replace Z11 := eq_true Z11))
   go_meet
   case rel => exact ⟨_, _, rs, H', ⟨by first | omega | exact Nat.le_refl _⟩, d0⟩
  have Z6 : decide (1 < a0.size) = false := decide_eq_false (by omega)
  clear Z4
  (first | rw [Z5] | (simp only [i64_w, i32_w]; rw [Z5]) | skip)
  rotate_left
  rotate_left
  all_goals
   have H' := ra H; clear H
   go_wp2_with (first | ((with_reducible refine gc 66 rfl ?_); refine gy (some 7) Tryz.func66 (spec_l1In.calls _ _ _ _ _ Z2.out) ?_; rintro w' ⟨nd, rfl⟩))
   go_meet
   case rel => exact ⟨_, _, rs, H', ⟨by first | omega | exact Nat.le_refl _⟩, d0⟩
 case rest =>
  clear Z0
  obtain ⟨kq, Z1, rfl, HA, Z2, ⟨Z3, rfl⟩⟩ := hcut
  cases kq with
  | zero => exact absurd HA.out (by simp [spec_l7Number.j0])
  | succ Z4 =>
   have H := HA.out
   clear HA
   simp only [spec_l7Number.j0] at H
   rcases ud H with ⟨rfl, Z5⟩ | ⟨rfl, Z5⟩ <;> have H := Z5
   ·obtain rfl := Option.some.inj H
    go_wp2
    go_ret
    exact ⟨rs, d0⟩
   ·have H' := ra H; clear H
    go_wp2
    go_loopg [3, 4] Z4 (fun kq v3 v4 w' => ∃ (x3_2 : Int) (x4_2 : Int), v3 = .int .i64 x3_2 ∧ v4 = .int .i64 x4_2 ∧ Aside0 (spec_l7Number.l0 kq a0 x3_2 x4_2 = some r) ∧ Aside0 (kq ≤ Z4) ∧ Drawn0 w w')
    case atStart => exact ⟨(0), (0), rs, rs, H', ⟨Nat.le_refl _⟩, d0⟩
    case round =>
     clear H'
     obtain ⟨Z6, Z7, rfl, rfl, HA, Z8, ⟨Z9, rfl⟩⟩ := hrel
     cases gk with
     | zero => exact absurd HA.out (by simp [spec_l7Number.l0])
     | succ Z10 =>
      have H := HA.out
      clear HA
      simp only [spec_l7Number.l0] at H
      rcases td H with ⟨Z11, H⟩ | ⟨Z11, H⟩
      obtain ⟨Z12, H⟩ := tn H
      rcases td H with ⟨Z13, H⟩ | ⟨Z13, H⟩
      obtain rfl := Option.some.inj H
      rotate_left
      rcases td H with ⟨Z14, H⟩ | ⟨Z14, H⟩
      obtain rfl := Option.some.inj H
      have Z15 : 0 ≤ (Z7 : Int) := od
      have Z16 : Z7 < (a0.size : Int) := od
      have Z17 := bt_at a0 Z7
      replace Z15 := eq_true Z15
      replace Z16 := eq_true Z16
      rotate_left
      ·have H' := ra H; clear H
       have Z15 : 0 ≤ (Z7 : Int) := od
       have Z16 : Z7 < (a0.size : Int) := od
       have Z17 := bt_at a0 Z7
       replace Z15 := eq_true Z15
       replace Z16 := eq_true Z16
       have Z18 : 0 ≤ (Z7 : Int) := od
       have Z19 : Z7 < (a0.size : Int) := od
       have Z20 := bt_at a0 Z7
       replace Z18 := eq_true Z18
       replace Z19 := eq_true Z19
       have Z21 : 0 ≤ (Z7 : Int) := od
       have Z22 : Z7 < (a0.size : Int) := od
       have Z23 := bt_at a0 Z7
       replace Z21 := eq_true Z21
       replace Z22 := eq_true Z22
       go_wp2
       go_roundg Z10
       case measure => have := Z2.out; have := Z8.out; omega
       case rel => exact ⟨(wrap64 ((wrap64 ((wrap64 (Z6 * 10)) + (wrap64 (bt a0 Z7)))) - 48)), (wrap64 (Z7 + 1)), rs, rs, H', ⟨by have := Z2.out; have := Z8.out; omega⟩, d0⟩
      ·obtain rfl := Option.some.inj H
       go_wp2
       go_ret
       exact ⟨rs, d0⟩
      all_goals
       have Z14 : 0 ≤ (Z7 : Int) := od
       have Z15 : Z7 < (a0.size : Int) := od
       have Z16 := bt_at a0 Z7
       replace Z14 := eq_true Z14
       replace Z15 := eq_true Z15
       go_wp2
       go_ret
       exact ⟨rs, d0⟩
theorem spec_l7Numbers.calls (k : Nat) (A0 : Option Addr) (c0 : Nat) (l0 : List ByteArray) (a1 : Int) (r1 : List Int) (r2 : Bool) (w : World) (hr0 : Kd.C Kd.string w A0 l0.length l0) (hc0 : l0.length ≤ c0) (h : spec_l7Numbers.f k l0 a1 = some (r1, r2)) :
  Calls Tryz.prog 18 #[.slice A0 l0.length c0, .int .i64 a1] w fun e w' => ∃ v0_ : Value, e = .returned (.tuple #[v0_, .bool r2]) ∧ Kd.R (Kd.int .i64) 3 w' w.heap.size (fun _ => True) v0_ r1 ∧ Below w.heap.size w w' := by
 have Z0 := ra hr0
 have Z1 := ra hc0
 clear hr0 hc0
 have HB := ra (Below.refl w.heap.size w)
 have H := h; unfold spec_l7Numbers.f at H
 clear h
 obtain ⟨Z2, hy_⟩ : ∃ y_ : List Int, y_ = (([] : List Int)) := ⟨_, rfl⟩
 replace H : (spec_l7Numbers.l0 k l0 a1 Z2 0) = some (r1, r2) := yh
 have Z3 := ra hy_
 clear hy_
 have H' := ra H; clear H
 go_enter Tryz.func18, Tryz.ntmps18
 go_wp2_with (first | ((with_reducible refine gd 9 rfl ?_); refine Kd.R_lit (Kd.int .i64) _ 3 ?hg (N := 9) ?hd (xs := ([] : List Int)) (inner := []) (ok := fun _ => True) (okp := fun _ => True) ?hr ?hp (fun _ hk => hk) trivial (Below.refl _ _) (Nat.le_refl _) (by simp) ?_; (case hd => rfl); (case hg => rfl); (case hr => first | (go_simp; done) | (go_simp; rfl)); (case hp => exact (Reps.none _ _)); intro Z4 Z5 Z6 hb hg_ hnew_; clear hg_ hnew_; (first | rw [← Z3.out] at Z6 | (simp only [Int.reduceToNat] at Z6; rw [← Z3.out] at Z6)); have Z7 := ra (Kd.R_lower Z6 (below_size bq)); replace HB := bs hb; clear hb Z6))
 go_loopg [6, 7] k (fun kq v6 v7 w' => ∃ (x6_1 : List Int) (x7_1 : Int), v7 = .int .i64 x7_1 ∧ Aside0 (spec_l7Numbers.l0 kq l0 a1 x6_1 x7_1 = some (r1, r2)) ∧ Aside0 (kq ≤ k) ∧ Aside0 (Kd.R (Kd.int .i64) 3 w' w.heap.size (fun _ => True) v6 x6_1) ∧ Aside0 (Below w.heap.size w w'))
 case atStart => exact ⟨(Z2), (0), rs, H', ⟨Nat.le_refl _⟩, ⟨rq Z7⟩, ⟨bq⟩⟩
 case round =>
  clear H'
  obtain ⟨Z8, Z9, rfl, HA, Z10, Z11, HB⟩ := hrel
  cases gk with
  | zero => exact absurd HA.out (by simp [spec_l7Numbers.l0])
  | succ Z12 =>
   have H := HA.out
   clear HA
   simp only [spec_l7Numbers.l0] at H
   rcases td H with ⟨Z13, H⟩ | ⟨Z13, H⟩
   ·obtain ⟨Z14, H⟩ := tn H
    obtain ⟨Z15, Z16, H⟩ := bo H
    rcases td H with ⟨Z17, H⟩ | ⟨Z17, H⟩
    ·simp only [Option.some.injEq, Prod.mk.injEq] at H
     obtain ⟨rfl, rfl⟩ := H
     have Z18 : 0 ≤ (Z9 : Int) := od
     have Z19 : Z9 < (l0.length : Int) := od
     obtain ⟨Z20, Z21, Z22⟩ := Kd.at_string Z0.out Z9 Z18 Z19
     cases Z21
     replace Z22 := hc HB Z22
     replace Z18 := eq_true Z18
     replace Z19 := eq_true Z19
     go_wp2_with (first | ((with_reducible refine gc 44 rfl ?_); refine gy (some 20) Tryz.func44 (spec_l7Number.calls _ _ _ _ Z16.out) ?_; rintro w' ⟨nd, rfl⟩))
     go_ret2
     exact ⟨_, re, rq Z11, bq⟩
    ·by_cases Z18 : Z8.length < 17592186044416
     ·rw [if_pos Z18] at H
      have Z19 := ra Z18; clear Z18
      obtain ⟨Z20, hy_⟩ : ∃ y_ : List Int, y_ = (Z8 ++ [Z15]) := ⟨_, rfl⟩
      replace H : (spec_l7Numbers.l0 Z12 l0 a1 Z20 (wrap64 (Z9 + 1))) = some (r1, r2) := yh
      have Z21 := ra hy_
      clear hy_
      have H' := ra H; clear H
      have Z22 : 0 ≤ (Z9 : Int) := od
      have Z23 : Z9 < (l0.length : Int) := od
      obtain ⟨Z24, Z25, Z26⟩ := Kd.at_string Z0.out Z9 Z22 Z23
      cases Z25
      replace Z26 := hc HB Z26
      replace Z22 := eq_true Z22
      replace Z23 := eq_true Z23
      go_wp2_with (first | ((with_reducible refine gc 44 rfl ?_); refine gy (some 20) Tryz.func44 (spec_l7Number.calls _ _ _ _ Z16.out) ?_; rintro w' ⟨nd, rfl⟩) | ((with_reducible refine gate_builtin (b := .append) (xs := #[.tmp 24, .tmp 26]) rfl ?_); at_builtin; refine Kd.R_append (Kd.int .i64) (w0 := w) w.heap.size rfl (.tmp 24) (.tmp 26) 49 3 (.int .i64 0) 8 rfl Tryz.underlying49 info3 rfl (by decide) (by omega) u6 Z8 Z15 [.int .i64 Z15] (fun _ => True) (fun _ => False) rfl rfl ?aP (fun _ hk => hk.elim) ?aF ?aO ?aB ?aS ?aL ?_; (case aP => exact rfl); (case aB => exact bq); (case aF => exact (fun _ _ => trivial)); (case aO => exact (rq Z11)); (case aS => exact (below_size bq)); (case aL => have := Z19.out; omega); intro Z27 Z28 ho hb hg hat; rw [← Z21.out] at ho; have _ := ra (hb); have _ := ra (ho); clear HB Z11; rename_i HB Z29; clear ho hb hg hat))
      go_roundg Z12
      case measure => have := Z10.out; omega
      case rel => exact ⟨_, _, rs, H', ⟨by have := Z10.out; omega⟩, ⟨rq Z29⟩, ⟨bq⟩⟩
     ·rw [if_neg Z18] at H
      exact absurd H (by simp)
   ·simp only [Option.some.injEq, Prod.mk.injEq] at H
    obtain ⟨rfl, rfl⟩ := H
    go_wp2
    go_ret2
    exact ⟨_, re, rq Z11, bq⟩
end Go.Proofs.YtjelgpmhbaiipaaGreatDoor.PA
end
