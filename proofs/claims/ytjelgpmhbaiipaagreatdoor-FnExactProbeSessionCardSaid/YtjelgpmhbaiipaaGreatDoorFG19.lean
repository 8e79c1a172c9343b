/- Contracts (began as prints of the kit's tool; shortened). No condition beside what the Lean functions say. -/
import Derived.Test.YtjelgpmhbaiipaaGreatDoorFPAd9
import Derived.Test.YtjelgpmhbaiipaaGreatDoorFZCx1
import Derived.Test.YtjelgpmhbaiipaaGreatDoorFZCv2
namespace Go.Proofs.YtjelgpmhbaiipaaGreatDoor.PA
open Go.RowKit Go.Proofs.YtjelgpmhbaiipaaGreatDoorW.PrintWords Go.Proofs.YtjelgpmhbaiipaaGreatDoorW.PrintLast Go.Proofs.YtjelgpmhbaiipaaGreatDoorW.PrintMore Go.Proofs.YtjelgpmhbaiipaaGreatDoor.Z
attribute [local go_sem] max2_int min2_int max_two min_two max_three min_three max_four min_four
set_option linter.unusedVariables false
set_option maxHeartbeats 8000000
set_option maxRecDepth 100000
set_option linter.unusedSimpArgs false
theorem spec_l7Cut.calls (k : Nat) (a0 : ByteArray) (a1 : Int) (r : List ByteArray) (w : World) (h : spec_l7Cut.f k a0 a1 = some r) :
  Calls Tryz.prog 8 #[.string a0, .int .u8 a1] w fun e w' => ∃ v0_ : Value, e = .returned (v0_) ∧ Kd.R Kd.string 9 w' w.heap.size (fun _ => True) v0_ r ∧ Below w.heap.size w w' := by
 have HB := ra (Below.refl w.heap.size w)
 have H := h; unfold spec_l7Cut.f at H
 clear h
 obtain ⟨Z0, hy_⟩ : ∃ y_ : List ByteArray, y_ = (([] : List ByteArray)) := ⟨_, rfl⟩
 replace H : (spec_l7Cut.l0 k a0 a1 Z0 0 0) = some r := yh
 have Z1 := ra hy_
 clear hy_
 have H' := ra H; clear H
 go_enter Tryz.func8, Tryz.ntmps8
 go_wp2_with (first | ((with_reducible refine gd 8 rfl ?_); refine Kd.R_lit Kd.string _ 9 ?hg (N := 8) ?hd (xs := ([] : List ByteArray)) (inner := []) (ok := fun _ => True) (okp := fun _ => True) ?hr ?hp (fun _ hk => hk) trivial (Below.refl _ _) (Nat.le_refl _) (by simp) ?_; (case hd => rfl); (case hg => rfl); (case hr => first | (go_simp; done) | (go_simp; rfl)); (case hp => exact (Reps.none _ _)); intro Z2 Z3 Z4 hb hg_ hnew_; clear hg_ hnew_; (first | rw [← Z1.out] at Z4 | (simp only [Int.reduceToNat] at Z4; rw [← Z1.out] at Z4)); have Z5 := ra (Kd.R_lower Z4 (below_size bq)); replace HB := bs hb; clear hb Z4))
 go_loopg [5, 6, 7] k (fun kq v5 v6 v7 w' => ∃ (x5_1 : List ByteArray) (x6_1 : Int) (x7_1 : Int), v6 = .int .i64 x6_1 ∧ v7 = .int .i64 x7_1 ∧ Aside0 (spec_l7Cut.l0 kq a0 a1 x5_1 x6_1 x7_1 = some r) ∧ Aside0 (kq ≤ k) ∧ Aside0 (Kd.R Kd.string 9 w' w.heap.size (fun _ => True) v5 x5_1) ∧ Aside0 (Below w.heap.size w w'))
 case atStart => exact ⟨(Z0), (0), (0), rs, rs, H', ⟨Nat.le_refl _⟩, ⟨rq Z5⟩, ⟨bq⟩⟩
 case round =>
  clear H'
  obtain ⟨Z6, Z7, Z8, rfl, rfl, HA, Z9, Z10, HB⟩ := hrel
  cases gk with
  | zero => exact absurd HA.out (by simp [spec_l7Cut.l0])
  | succ Z11 =>
   have H := HA.out
   clear HA
   simp only [spec_l7Cut.l0] at H
   rcases td H with ⟨Z12, H⟩ | ⟨Z12, H⟩
   ·obtain ⟨Z13, H⟩ := tn H
    rcases ed H with ⟨-, Z14, Z15, H⟩ | ⟨-, Z14, Z15, H⟩
    ·by_cases Z16 : 0 ≤ Z7
     ·rw [if_pos Z16] at H
      have Z17 := eq_true Z16
      have Z18 : decide (0 ≤ Z7) = true := decide_eq_true Z16
      clear Z16
      by_cases Z19 : Z7 ≤ Z8
      ·rw [if_pos Z19] at H
       have Z20 := eq_true Z19
       have Z21 : decide (Z7 ≤ Z8) = true := decide_eq_true Z19
       clear Z19
       by_cases Z22 : Z8 ≤ (a0.size : Int)
       ·rw [if_pos Z22] at H
        have Z23 := eq_true Z22
        have Z24 : decide (Z8 ≤ (a0.size : Int)) = true := decide_eq_true Z22
        clear Z22
        by_cases Z25 : Z6.length < 8796093022208
        ·rw [if_pos Z25] at H
         have Z26 := ra Z25; clear Z25
         obtain ⟨Z27, hy_⟩ : ∃ y_ : List ByteArray, y_ = (Z6 ++ [a0.extract (Z7 : Int).toNat (Z8 : Int).toNat]) := ⟨_, rfl⟩
         replace H : (spec_l7Cut.l0 Z11 a0 a1 Z27 (wrap64 (Z8 + 1)) (wrap64 (Z8 + 1))) = some r := yh
         have Z28 := ra hy_
         clear hy_
         have H' := ra H; clear H
         have Z29 : 0 ≤ (Z8 : Int) := od
         have Z30 : Z8 < (a0.size : Int) := od
         have Z31 := bt_at a0 Z8
         replace Z29 := eq_true Z29
         replace Z30 := eq_true Z30
         go_wp2_with (first | ((with_reducible refine gate_builtin (b := .append) (xs := #[.tmp 20, .tmp 25]) rfl ?_); at_builtin; refine Kd.R_append Kd.string (w0 := w) w.heap.size rfl (.tmp 20) (.tmp 25) 27 9 (.string ⟨#[]⟩) 16 rfl Tryz.underlying27 info9 rfl (by decide) (by omega) u5 Z6 (a0.extract (Z7 : Int).toNat (Z8 : Int).toNat) [.string (a0.extract (Z7 : Int).toNat (Z8 : Int).toNat)] (fun _ => True) (fun _ => False) rfl rfl ?aP (fun _ hk => hk.elim) ?aF ?aO ?aB ?aS ?aL ?_; (case aP => exact rfl); (case aB => exact bq); (case aF => exact (fun _ _ => trivial)); (case aO => exact (rq Z10)); (case aS => exact (below_size bq)); (case aL => have := Z26.out; omega); intro Z32 Z33 ho hb hg hat; rw [← Z28.out] at ho; have _ := ra (hb); have _ := ra (ho); clear HB Z10; rename_i HB Z34; clear ho hb hg hat))
         go_roundg Z11
         case measure => have := Z9.out; omega
         case rel => exact ⟨(Z27), (wrap64 (Z8 + 1)), (wrap64 (Z8 + 1)), rs, rs, H', ⟨by have := Z9.out; omega⟩, ⟨rq Z34⟩, ⟨bq⟩⟩
        ·rw [if_neg Z25] at H
         exact absurd H (by simp)
       ·rw [if_neg Z22] at H
        exact absurd H (by simp)
      ·rw [if_neg Z19] at H
       exact absurd H (by simp)
     ·rw [if_neg Z16] at H
      exact absurd H (by simp)
    ·have H' := ra H; clear H
     have Z16 : 0 ≤ (Z8 : Int) := od
     have Z17 : Z8 < (a0.size : Int) := od
     have Z18 := bt_at a0 Z8
     replace Z16 := eq_true Z16
     replace Z17 := eq_true Z17
     go_wp2
     go_roundg Z11
     case measure => have := Z9.out; omega
     case rel => exact ⟨(Z6), (Z7), (wrap64 (Z8 + 1)), rs, rs, H', ⟨by have := Z9.out; omega⟩, ⟨rq Z10⟩, ⟨bq⟩⟩
   ·by_cases Z13 : 0 ≤ Z7
    ·rw [if_pos Z13] at H
     have Z14 := eq_true Z13
     have Z15 : decide (0 ≤ Z7) = true := decide_eq_true Z13
     clear Z13
     by_cases Z16 : Z7 ≤ (a0.size : Int)
     ·rw [if_pos Z16] at H
      have Z17 := eq_true Z16
      have Z18 : decide (Z7 ≤ (a0.size : Int)) = true := decide_eq_true Z16
      clear Z16
      by_cases Z19 : Z6.length < 8796093022208
      ·rw [if_pos Z19] at H
       have Z20 := ra Z19; clear Z19
       obtain ⟨Z21, hy_⟩ : ∃ y_ : List ByteArray, y_ = (Z6 ++ [a0.extract (Z7 : Int).toNat a0.size]) := ⟨_, rfl⟩
       replace H : (some Z21) = some r := yh
       have Z22 := ra hy_
       clear hy_
       obtain rfl := Option.some.inj H
       go_wp2_with (first | ((with_reducible refine gate_builtin (b := .append) (xs := #[.tmp 29, .tmp 33]) rfl ?_); at_builtin; refine Kd.R_append Kd.string (w0 := w) w.heap.size rfl (.tmp 29) (.tmp 33) 27 9 (.string ⟨#[]⟩) 16 rfl Tryz.underlying27 info9 rfl (by decide) (by omega) u5 Z6 (a0.extract (Z7 : Int).toNat a0.size) [.string (a0.extract (Z7 : Int).toNat a0.size)] (fun _ => True) (fun _ => False) rfl rfl ?aP (fun _ hk => hk.elim) ?aF ?aO ?aB ?aS ?aL ?_; (case aP => exact rfl); (case aB => exact bq); (case aF => exact (fun _ _ => trivial)); (case aO => exact (rq Z10)); (case aS => exact (below_size bq)); (case aL => have := Z20.out; omega); intro Z23 Z24 ho hb hg hat; rw [← Z22.out] at ho; have _ := ra (hb); have _ := ra (ho); clear HB Z10; rename_i HB Z25; clear ho hb hg hat))
       go_ret
       exact ⟨_, re, rq Z25, bq⟩
      ·rw [if_neg Z19] at H
       exact absurd H (by simp)
     ·rw [if_neg Z16] at H
      exact absurd H (by simp)
    ·rw [if_neg Z13] at H
     exact absurd H (by simp)
end Go.Proofs.YtjelgpmhbaiipaaGreatDoor.PA
