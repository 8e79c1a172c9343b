/- A contract of the function laws_szProbeTubeS. (Began as a print of the kit's tool.) -/
import Derived.Test.YtfoapgcnjnogiaaPAd
import Derived.Test.YtfoapgcnjnogiaaCx
import Derived.Test.YtfoapgcnjnogiaaC20
namespace Go.Proofs.Ytfoapgcnjnogiaa.PA
open Go.RowKit Go.Proofs.YtfoapgcnjnogiaaW.PrintWords Go.Proofs.YtfoapgcnjnogiaaW.PrintLast Go.Proofs.YtfoapgcnjnogiaaW.PrintMore Go.Proofs.Ytfoapgcnjnogiaa.Z
attribute [local go_sem] max2_int min2_int max_two min_two max_three min_three max_four min_four
set_option linter.unusedVariables false
set_option linter.unusedSimpArgs false
set_option maxHeartbeats 8000000 in
set_option maxRecDepth 100000 in
theorem laws_szProbeTubeS.calls (k : Nat) (A0 : Option Addr) (c0 : Nat) (l0 : List (S34)) (a1 : Int) (r : Int) (w : World) (hr0 : Kd.C k34 w A0 l0.length l0) (hc0 : l0.length ≤ c0) (h : laws_szProbeTubeS.f k l0 a1 = some r) :
    Calls Try.prog 27 #[.slice A0 l0.length c0, .int .i64 a1] w fun e w' => e = .returned (.int .i64 r) ∧ Below w.heap.size w w' := by
  have hu34 := Try.underlying34
  have HR0 := Aside0.mk hr0
  have HC0 := Aside0.mk hc0
  clear hr0 hc0
  have HB := ra (Below.refl w.heap.size w)
  have H : (if (wrap64 (a1 - (l0.length : Int))) < 0 then (some (-1)) else (laws_szProbeTubeS.l0 k l0 (wrap64 (a1 - (l0.length : Int))) 0)) = some r := h
  clear h
  by_cases c3 : (wrap64 (a1 - (l0.length : Int))) < 0
  · rw [if_pos c3] at H
    have c3b0 : decide ((wrap64 (a1 - (l0.length : Int))) < 0) = true := decide_eq_true c3
    clear c3
    obtain rfl := Option.some.inj H
    go_enter Try.func27, Try.ntmps27
    go_wp2
    go_ret
    exact ⟨re, bq⟩
  · rw [if_neg c3] at H
    have c3b0 : decide ((wrap64 (a1 - (l0.length : Int))) < 0) = false := decide_eq_false c3
    clear c3
    have H' := Aside0.mk H
    clear H
    go_enter Try.func27, Try.ntmps27
    go_wp2
    go_loopg [1, 5] k (fun kq v1 v5 w' => ∃ (x1_1 : Int) (x5_1 : Int), v1 = .int .i64 x1_1 ∧ v5 = .int .i64 x5_1 ∧ Aside0 (laws_szProbeTubeS.l0 kq l0 x1_1 x5_1 = some r) ∧ Aside0 (kq ≤ k) ∧ Aside0 (Below w.heap.size w w'))
    case atStart => exact ⟨(wrap64 (a1 - (l0.length : Int))), (0), rs, rs, H', ⟨Nat.le_refl _⟩, ⟨bq⟩⟩
    case round =>
      clear H'
      try clear c3
      try clear c3b0
      obtain ⟨x1_1, x5_1, rfl, rfl, HA, HK1, HB⟩ := hrel
      cases gk with
      | zero => exact absurd HA.out (by simp [laws_szProbeTubeS.l0])
      | succ k1 =>
        have H := HA.out
        clear HA
        simp only [laws_szProbeTubeS.l0] at H
        by_cases c4 : x5_1 < (l0.length : Int)
        · rw [if_pos c4] at H
          have c4b0 : decide (x5_1 < (l0.length : Int)) = true := decide_eq_true c4
          clear c4
          by_cases c5 : 0 ≤ x5_1
          · rw [if_pos c5] at H
            have c5b0 : decide (0 ≤ x5_1) = true := decide_eq_true c5
            clear c5
            obtain ⟨t283, A6, H⟩ := bo H
            by_cases c7 : t283 < 0
            · rw [if_pos c7] at H
              have c7b0 : decide (t283 < 0) = true := decide_eq_true c7
              clear c7
              obtain rfl := Option.some.inj H
              have p282 : 0 ≤ (x5_1 : Int) := od
              have q282 : x5_1 < (l0.length : Int) := od
              obtain ⟨ad282, A282_1, c282_1, e282, hx282_0, hx282_1, hl282_1, hi282_1⟩ := at_T34 HR0.out x5_1 p282 q282
              cases e282
              replace hx282_0 := hc HB hx282_0
              replace hx282_1 := hc HB hx282_1
              have HR282_1 := Aside0.mk hi282_1
              have HC282_1 := Aside0.mk hl282_1
              clear hi282_1 hl282_1
              replace p282 := eq_true p282
              replace q282 := eq_true q282
              go_wp2_with (first | ((with_reducible refine gate_callee (f := 20) rfl ?_); refine gl (some 23) Try.func20 #[.agg #[.string ((rd_T34 l0 x5_1).f0), .slice A282_1 ((rd_T34 l0 x5_1).f1).length c282_1], .int .i64 x1_1] ?_; (with_reducible refine (laws_szProbeTube.calls ((rd_T34 l0 x5_1).f0) _ _ ((rd_T34 l0 x5_1).f1) x1_1 t283 _ ?side1 ?side2 A6.out).mono ?_); (case side1 => exact sc HR282_1); (case side2 => exact HC282_1.out); rintro e w8 ⟨rfl, hb⟩; refine ⟨_, rfl, ?_⟩; have n0 := bs hb; clear HB; have HB := n0; clear n0; (try clear hb); (try clear hb2); (try clear hk); (try clear hi)))
              go_ret
              exact ⟨re, bq⟩
            · rw [if_neg c7] at H
              have c7b0 : decide (t283 < 0) = false := decide_eq_false c7
              clear c7
              have H' := Aside0.mk H
              clear H
              have p282 : 0 ≤ (x5_1 : Int) := od
              have q282 : x5_1 < (l0.length : Int) := od
              obtain ⟨ad282, A282_1, c282_1, e282, hx282_0, hx282_1, hl282_1, hi282_1⟩ := at_T34 HR0.out x5_1 p282 q282
              cases e282
              replace hx282_0 := hc HB hx282_0
              replace hx282_1 := hc HB hx282_1
              have HR282_1 := Aside0.mk hi282_1
              have HC282_1 := Aside0.mk hl282_1
              clear hi282_1 hl282_1
              replace p282 := eq_true p282
              replace q282 := eq_true q282
              go_wp2_with (first | ((with_reducible refine gate_callee (f := 20) rfl ?_); refine gl (some 23) Try.func20 #[.agg #[.string ((rd_T34 l0 x5_1).f0), .slice A282_1 ((rd_T34 l0 x5_1).f1).length c282_1], .int .i64 x1_1] ?_; (with_reducible refine (laws_szProbeTube.calls ((rd_T34 l0 x5_1).f0) _ _ ((rd_T34 l0 x5_1).f1) x1_1 t283 _ ?side1 ?side2 A6.out).mono ?_); (case side1 => exact sc HR282_1); (case side2 => exact HC282_1.out); rintro e w9 ⟨rfl, hb⟩; refine ⟨_, rfl, ?_⟩; have n0 := bs hb; clear HB; have HB := n0; clear n0; (try clear hb); (try clear hb2); (try clear hk); (try clear hi)))
              go_roundg k1
              case measure => have := HK1.out; omega
              case rel => exact ⟨(t283), (wrap64 (x5_1 + 1)), rs, rs, H', ⟨by have := HK1.out; omega⟩, ⟨bq⟩⟩
          · rw [if_neg c5] at H
            exact absurd H (by simp)
        · rw [if_neg c4] at H
          have c4b0 : decide (x5_1 < (l0.length : Int)) = false := decide_eq_false c4
          clear c4
          obtain rfl := Option.some.inj H
          go_wp2
          go_ret
          exact ⟨re, bq⟩
end Go.Proofs.Ytfoapgcnjnogiaa.PA
