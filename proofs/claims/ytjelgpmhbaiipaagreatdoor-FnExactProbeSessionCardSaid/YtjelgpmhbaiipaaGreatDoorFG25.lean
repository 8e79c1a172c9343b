/- Contracts (began as prints of the kit's tool; shortened). No condition beside what the Lean functions say. -/
import Derived.Test.YtjelgpmhbaiipaaGreatDoorFPAd9
import Derived.Test.YtjelgpmhbaiipaaGreatDoorFZCx1
import Derived.Test.YtjelgpmhbaiipaaGreatDoorFZCv2
import Derived.Test.YtjelgpmhbaiipaaGreatDoorFZLb5
import Derived.Test.YtjelgpmhbaiipaaGreatDoorFG11
section
namespace Go.Proofs.YtjelgpmhbaiipaaGreatDoor.PA
open Go.RowKit Go.Proofs.YtjelgpmhbaiipaaGreatDoorW.PrintWords Go.Proofs.YtjelgpmhbaiipaaGreatDoorW.PrintLast Go.Proofs.YtjelgpmhbaiipaaGreatDoorW.PrintMore Go.Proofs.YtjelgpmhbaiipaaGreatDoor.Z
attribute [local go_sem] max2_int min2_int max_two min_two max_three min_three max_four min_four
set_option linter.unusedVariables false
set_option maxHeartbeats 8000000
set_option maxRecDepth 100000
set_option linter.unusedSimpArgs false
theorem impl_decimal.calls (k : Nat) (a0 : ByteArray) (r1 : Int) (r2 : Bool) (w : World) (h : impl_decimal.f k a0 = some (r1, r2)) :
  Calls Tryz.prog 39 #[.string a0] w fun e w' => e = .returned (.tuple #[.int .i64 r1, .bool r2]) ∧ Below w.heap.size w w' := by
 have HB := ra (Below.refl w.heap.size w)
 have H := h; unfold impl_decimal.f at H
 clear h
 have Z0 := ra H; clear H
 go_enter Tryz.func39, Tryz.ntmps39
 go_upto_region 1 with (fail)
 go_cut [20] (fun v20 wc => ∃ (kq : Nat) (x20_1 : Bool), v20 = .bool x20_1 ∧ Aside0 (impl_decimal.j0 kq a0 x20_1 = some (r1, r2)) ∧ Aside0 (kq ≤ k) ∧ Aside0 (Below w.heap.size w wc))
 case first =>
  have H := Z0.out
  clear Z0
  obtain ⟨Z1, Z2, H⟩ := bo H
  rcases ud H with ⟨rfl, Z3⟩ | ⟨rfl, Z3⟩ <;> have H := Z3
  rcases sd H with ⟨Z4, Z5, H⟩ | ⟨Z4, Z5, H⟩
  ·have Z6 : decide (1 < a0.size) = true := decide_eq_true (by omega)
   clear Z4
   (first | rw [Z5] | (simp only [i64_w, i32_w]; rw [Z5]) | skip)
   obtain ⟨Z7, Z8, H⟩ := sn H
   have Z9 : decide (0 < a0.size) = true := decide_eq_true (by omega)
   clear Z7
   have H' := ra H; clear H
   go_wp2_with (first | ((with_reducible refine gc 57 rfl ?_); refine gy (some 9) Tryz.func57 (impl_in.calls _ _ _ _ _ Z2.out) ?_; rintro w' ⟨nd, rfl⟩; have Z10 : 0 ≤ (0 : Int) := (by omega); have Z11 : 0 < a0.size := (by have : (0 : Int) < (a0.size : Int) := od; omega); have Z12 : ∀ h : 0 < a0.size, ((a0[0]'h).toNat : Int) = bt a0 0 := bt_at a0 0; clear Z10; have Z13 : (0 < (a0.size : Int)) = True := eq_true (od); replace Z11 := eq_true Z11))
   go_meet
   case rel => exact ⟨_, _, rs, H', ⟨by first | omega | exact Nat.le_refl _⟩, ⟨bq⟩⟩
  have Z6 : decide (1 < a0.size) = false := decide_eq_false (by omega)
  clear Z4
  (first | rw [Z5] | (simp only [i64_w, i32_w]; rw [Z5]) | skip)
  rotate_left
  rotate_left
  all_goals
   have H' := ra H; clear H
   go_wp2_with (first | ((with_reducible refine gc 57 rfl ?_); refine gy (some 9) Tryz.func57 (impl_in.calls _ _ _ _ _ Z2.out) ?_; rintro w' ⟨nd, rfl⟩))
   go_meet
   case rel => exact ⟨_, _, rs, H', ⟨by first | omega | exact Nat.le_refl _⟩, ⟨bq⟩⟩
 case rest =>
  clear Z0
  obtain ⟨kq, Z1, rfl, HA, Z2, HB⟩ := hcut
  cases kq with
  | zero => exact absurd HA.out (by simp [impl_decimal.j0])
  | succ Z3 =>
   have H := HA.out
   clear HA
   simp only [impl_decimal.j0] at H
   rcases ud H with ⟨rfl, Z4⟩ | ⟨rfl, Z4⟩ <;> have H := Z4
   ·simp only [Option.some.injEq, Prod.mk.injEq] at H
    obtain ⟨rfl, rfl⟩ := H
    go_wp2
    go_ret2
    exact ⟨re, bq⟩
   ·have H' := ra H; clear H
    go_wp2
    go_loopg [4] Z3 (fun kq v4 w' => ∃ (x4_2 : Int), v4 = .int .i64 x4_2 ∧ Aside0 (impl_decimal.l0 kq a0 x4_2 = some (r1, r2)) ∧ Aside0 (kq ≤ Z3) ∧ Aside0 (Below w.heap.size w w'))
    case atStart => exact ⟨_, rs, H', ⟨Nat.le_refl _⟩, ⟨bq⟩⟩
    case round =>
     clear H'
     obtain ⟨Z5, rfl, HA, Z6, HB⟩ := hrel
     cases gk with
     | zero => exact absurd HA.out (by simp [impl_decimal.l0])
     | succ Z7 =>
      have H := HA.out
      clear HA
      simp only [impl_decimal.l0] at H
      rcases td H with ⟨Z8, H⟩ | ⟨Z8, H⟩
      obtain ⟨Z9, H⟩ := tn H
      rcases td H with ⟨Z10, H⟩ | ⟨Z10, H⟩
      simp only [Option.some.injEq, Prod.mk.injEq] at H
      obtain ⟨rfl, rfl⟩ := H
      rotate_left
      rcases td H with ⟨Z11, H⟩ | ⟨Z11, H⟩
      simp only [Option.some.injEq, Prod.mk.injEq] at H
      obtain ⟨rfl, rfl⟩ := H
      have Z12 : 0 ≤ (Z5 : Int) := od
      have Z13 : Z5 < (a0.size : Int) := od
      have Z14 := bt_at a0 Z5
      replace Z12 := eq_true Z12
      replace Z13 := eq_true Z13
      rotate_left
      ·have H' := ra H; clear H
       have Z12 : 0 ≤ (Z5 : Int) := od
       have Z13 : Z5 < (a0.size : Int) := od
       have Z14 := bt_at a0 Z5
       replace Z12 := eq_true Z12
       replace Z13 := eq_true Z13
       have Z15 : 0 ≤ (Z5 : Int) := od
       have Z16 : Z5 < (a0.size : Int) := od
       have Z17 := bt_at a0 Z5
       replace Z15 := eq_true Z15
       replace Z16 := eq_true Z16
       go_wp2
       go_roundg Z7
       case measure => have := Z2.out; have := Z6.out; omega
       case rel => exact ⟨_, rs, H', ⟨by have := Z2.out; have := Z6.out; omega⟩, ⟨bq⟩⟩
      ·obtain ⟨Z9, Z10, H⟩ := bo H
       simp only [Option.some.injEq, Prod.mk.injEq] at H
       obtain ⟨rfl, rfl⟩ := H
       go_wp2_with (first | ((with_reducible refine gc 63 rfl ?_); refine gy (some 39) Tryz.func63 (Lb.atoi.calls _ _ _ Z10.out) ?_; rintro Z11 hb; replace HB := bs hb; clear hb))
       go_ret2
       exact ⟨re, bq⟩
      all_goals
       have Z11 : 0 ≤ (Z5 : Int) := od
       have Z12 : Z5 < (a0.size : Int) := od
       have Z13 := bt_at a0 Z5
       replace Z11 := eq_true Z11
       replace Z12 := eq_true Z12
       go_wp2
       go_ret2
       exact ⟨re, bq⟩
theorem impl_numbers.calls (k : Nat) (A0 : Option Addr) (c0 : Nat) (l0 : List ByteArray) (r1 : List Int) (r2 : Bool) (w : World) (hr0 : Kd.C Kd.string w A0 l0.length l0) (hc0 : l0.length ≤ c0) (h : impl_numbers.f k l0 = some (r1, r2)) :
  Calls Tryz.prog 28 #[.slice A0 l0.length c0] w fun e w' => ∃ v0_ : Value, e = .returned (.tuple #[v0_, .bool r2]) ∧ Kd.R (Kd.int .i64) 3 w' w.heap.size (fun _ => True) v0_ r1 ∧ Below w.heap.size w w' := by
 have Z0 := ra hr0
 have Z1 := ra hc0
 clear hr0 hc0
 have HB := ra (Below.refl w.heap.size w)
 have H := h; unfold impl_numbers.f at H
 clear h
 obtain ⟨Z2, hy_⟩ : ∃ y_ : List Int, y_ = (([] : List Int)) := ⟨_, rfl⟩
 replace H : (impl_numbers.l0 k Z2 l0 (l0.length : Int) 0) = some (r1, r2) := yh
 have Z3 := ra hy_
 clear hy_
 have H' := ra H; clear H
 go_enter Tryz.func28, Tryz.ntmps28
 go_wp2_with (first | ((with_reducible refine gd 9 rfl ?_); refine Kd.R_lit (Kd.int .i64) _ 3 ?hg (N := 9) ?hd (xs := ([] : List Int)) (inner := []) (ok := fun _ => True) (okp := fun _ => True) ?hr ?hp (fun _ hk => hk) trivial (Below.refl _ _) (Nat.le_refl _) (by simp) ?_; (case hd => rfl); (case hg => rfl); (case hr => first | (go_simp; done) | (go_simp; rfl)); (case hp => exact (Reps.none _ _)); intro Z4 Z5 Z6 hb hg_ hnew_; clear hg_ hnew_; (first | rw [← Z3.out] at Z6 | (simp only [Int.reduceToNat] at Z6; rw [← Z3.out] at Z6)); have Z7 := ra (Kd.R_lower Z6 (below_size bq)); replace HB := bs hb; clear hb Z6))
 go_loopg [4, 12] k (fun kq v4 v12 w' => ∃ (x4_1 : List Int) (x12_1 : Int), v12 = .int .i64 x12_1 ∧ Aside0 (impl_numbers.l0 kq x4_1 l0 (l0.length : Int) x12_1 = some (r1, r2)) ∧ Aside0 (kq ≤ k) ∧ Aside0 (Kd.R (Kd.int .i64) 3 w' w.heap.size (fun _ => True) v4 x4_1) ∧ Aside0 (Below w.heap.size w w'))
 case atStart => exact ⟨(Z2), (0), rs, H', ⟨Nat.le_refl _⟩, ⟨rq Z7⟩, ⟨bq⟩⟩
 case round =>
  clear H'
  obtain ⟨Z8, Z9, rfl, HA, Z10, Z11, HB⟩ := hrel
  cases gk with
  | zero => exact absurd HA.out (by simp [impl_numbers.l0])
  | succ Z12 =>
   have H := HA.out
   clear HA
   simp only [impl_numbers.l0] at H
   rcases td H with ⟨Z13, H⟩ | ⟨Z13, H⟩
   ·obtain ⟨Z14, H⟩ := tn H
    obtain ⟨Z15, H⟩ := tn H
    obtain ⟨⟨Z16, Z17⟩, Z18, H⟩ := bo H
    try dsimp only at H
    rcases ud H with ⟨rfl, Z19⟩ | ⟨rfl, Z19⟩ <;> have H := Z19
    ·by_cases Z20 : Z8.length < 17592186044416
     ·rw [if_pos Z20] at H
      have Z21 := ra Z20; clear Z20
      obtain ⟨Z22, hy_⟩ : ∃ y_ : List Int, y_ = (Z8 ++ [Z16]) := ⟨_, rfl⟩
      replace H : (impl_numbers.l0 Z12 Z22 l0 (l0.length : Int) (wrap64 (Z9 + 1))) = some (r1, r2) := yh
      have Z23 := ra hy_
      clear hy_
      have H' := ra H; clear H
      have Z24 : 0 ≤ (Z9 : Int) := od
      have Z25 : Z9 < (l0.length : Int) := od
      obtain ⟨Z26, Z27, Z28⟩ := Kd.at_string Z0.out Z9 Z24 Z25
      cases Z27
      replace Z28 := hc HB Z28
      replace Z24 := eq_true Z24
      replace Z25 := eq_true Z25
      go_wp2_with (first | ((with_reducible refine gc 39 rfl ?_); refine gy (some 18) Tryz.func39 (impl_decimal.calls _ _ _ _ _ Z18.out) ?_; rintro Z29 hb; replace Z11 := ra (Kd.R_below (rq Z11) hb); replace HB := bs hb; clear hb) | ((with_reducible refine gate_builtin (b := .append) (xs := #[.tmp 23, .tmp 25]) rfl ?_); at_builtin; refine Kd.R_append (Kd.int .i64) (w0 := w) w.heap.size rfl (.tmp 23) (.tmp 25) 49 3 (.int .i64 0) 8 rfl Tryz.underlying49 info3 rfl (by decide) (by omega) u4 Z8 Z16 [.int .i64 Z16] (fun _ => True) (fun _ => False) rfl rfl ?aP (fun _ hk => hk.elim) ?aF ?aO ?aB ?aS ?aL ?_; (case aP => exact rfl); (case aB => exact bq); (case aF => exact (fun _ _ => trivial)); (case aO => exact (rq Z11)); (case aS => exact (below_size bq)); (case aL => have := Z21.out; omega); intro Z30 Z31 ho hb hg hat; rw [← Z23.out] at ho; have _ := ra (hb); have _ := ra (ho); clear HB Z11; rename_i HB Z32; clear ho hb hg hat))
      go_roundg Z12
      case measure => have := Z10.out; omega
      case rel => exact ⟨_, _, rs, H', ⟨by have := Z10.out; omega⟩, ⟨rq Z32⟩, ⟨bq⟩⟩
     ·rw [if_neg Z20] at H
      exact absurd H (by simp)
    ·simp only [Option.some.injEq, Prod.mk.injEq] at H
     obtain ⟨rfl, rfl⟩ := H
     have Z20 : 0 ≤ (Z9 : Int) := od
     have Z21 : Z9 < (l0.length : Int) := od
     obtain ⟨Z22, Z23, Z24⟩ := Kd.at_string Z0.out Z9 Z20 Z21
     cases Z23
     replace Z24 := hc HB Z24
     replace Z20 := eq_true Z20
     replace Z21 := eq_true Z21
     go_wp2_with (first | ((with_reducible refine gc 39 rfl ?_); refine gy (some 18) Tryz.func39 (impl_decimal.calls _ _ _ _ _ Z18.out) ?_; rintro Z25 hb; replace Z11 := ra (Kd.R_below (rq Z11) hb); replace HB := bs hb; clear hb))
     go_ret2
     exact ⟨_, re, by first | exact Kd.R_nil _ _ _ _ _ | exact Kd.N_nil _ _ _ _ _ | exact Kd.V_nil _ _ _ _ _ | exact Kd.Q_nil _ _ _ _ _ | exact Kd.S_nil _ _ _ _ _, bq⟩
   ·simp only [Option.some.injEq, Prod.mk.injEq] at H
    obtain ⟨rfl, rfl⟩ := H
    go_wp2
    go_ret2
    exact ⟨_, re, rq Z11, bq⟩
end Go.Proofs.YtjelgpmhbaiipaaGreatDoor.PA
end
