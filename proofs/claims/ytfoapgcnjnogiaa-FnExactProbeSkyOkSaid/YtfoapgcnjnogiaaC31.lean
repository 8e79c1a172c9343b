/- A contract of the function laws_eqProbeTubeS. (Began as a print of the kit's tool.) -/
import Derived.Test.YtfoapgcnjnogiaaPAd
import Derived.Test.YtfoapgcnjnogiaaCx
import Derived.Test.YtfoapgcnjnogiaaC24
namespace Go.Proofs.Ytfoapgcnjnogiaa.PA
open Go.RowKit Go.Proofs.YtfoapgcnjnogiaaW.PrintWords Go.Proofs.YtfoapgcnjnogiaaW.PrintLast Go.Proofs.YtfoapgcnjnogiaaW.PrintMore Go.Proofs.Ytfoapgcnjnogiaa.Z
attribute [local go_sem] max2_int min2_int max_two min_two max_three min_three max_four min_four
set_option linter.unusedVariables false
set_option linter.unusedSimpArgs false
def laws_eqProbeTubeS.T6 : Bool × List (List Nat × List Nat) := (true, [([], []), ([], []), ([0, 1], [0, 1]), ([2], [2]), ([], []), ([], []), ([4, 5], [4, 5]), ([6], [6]), ([3, 7], [3, 7]), ([8], [8])])
def laws_eqProbeTubeS.B6 : List Nat := [0, 0, 3, 7, 0, 0, 48, 112, 255, 511]
theorem laws_eqProbeTubeS.tab6 : rtab .any (opsOf Try.f31 6) = laws_eqProbeTubeS.T6 := by kernel_rfl
theorem laws_eqProbeTubeS.bits6 : waitsOk laws_eqProbeTubeS.T6.2 laws_eqProbeTubeS.B6 = true := by kernel_rfl
set_option maxHeartbeats 8000000 in
set_option maxRecDepth 100000 in
theorem laws_eqProbeTubeS.calls (k : Nat) (A0 : Option Addr) (c0 : Nat) (l0 : List (S39)) (A1 : Option Addr) (c1 : Nat) (l1 : List (S39)) (r : Bool) (w : World) (hr0 : Kd.C k39 w A0 l0.length l0) (hc0 : l0.length ≤ c0) (hr1 : Kd.C k39 w A1 l1.length l1) (hc1 : l1.length ≤ c1) (h : laws_eqProbeTubeS.f k l0 l1 = some r) :
    Calls Try.prog 31 #[.slice A0 l0.length c0, .slice A1 l1.length c1] w fun e w' => e = .returned (.bool r) ∧ Below w.heap.size w w' := by
  have hu39 := Try.underlying39
  have HR0 := Aside0.mk hr0
  have HC0 := Aside0.mk hc0
  clear hr0 hc0
  have HR1 := Aside0.mk hr1
  have HC1 := Aside0.mk hc1
  clear hr1 hc1
  have HB := ra (Below.refl w.heap.size w)
  have H : (if (l0.length : Int) = (l1.length : Int) then (laws_eqProbeTubeS.l0 k l0 l1 0) else (some false)) = some r := h
  clear h
  by_cases c3 : (l0.length : Int) = (l1.length : Int)
  · rw [if_pos c3] at H
    have c3b0 : ((l0.length : Int) == (l1.length : Int)) = true := beq_iff_eq.mpr c3
    have c3b1 : ((l0.length : Int) != (l1.length : Int)) = false := bne_eq_false_iff_eq.mpr c3
    have c3b2 : (l0.length == l1.length) = true := by first | simpa using c3 | (simp at c3 ⊢; omega)
    clear c3
    have H' := Aside0.mk H
    clear H
    go_enter Try.func31, Try.ntmps31
    go_wp2
    go_loopg [5] k (fun kq v5 w' => ∃ (x5_1 : Int), v5 = .int .i64 x5_1 ∧ Aside0 (laws_eqProbeTubeS.l0 kq l0 l1 x5_1 = some r) ∧ Aside0 (kq ≤ k) ∧ Aside0 (Below w.heap.size w w'))
    case atStart => exact ⟨(0), rs, H', ⟨Nat.le_refl _⟩, ⟨bq⟩⟩
    case round =>
      clear H'
      try clear c1
      try clear c3
      try clear c3b0
      try clear c3b1
      try clear c3b2
      obtain ⟨x5_1, rfl, HA, HK1, HB⟩ := hrel
      cases gk with
      | zero => exact absurd HA.out (by simp [laws_eqProbeTubeS.l0])
      | succ k1 =>
        have H := HA.out
        clear HA
        simp only [laws_eqProbeTubeS.l0] at H
        by_cases c4 : x5_1 < (l0.length : Int)
        · rw [if_pos c4] at H
          have c4b0 : decide (x5_1 < (l0.length : Int)) = true := decide_eq_true c4
          clear c4
          by_cases c5 : 0 ≤ x5_1
          · rw [if_pos c5] at H
            have c5b0 : decide (0 ≤ x5_1) = true := decide_eq_true c5
            clear c5
            by_cases c6 : x5_1 < (l1.length : Int)
            · rw [if_pos c6] at H
              have c6b0 : decide (x5_1 < (l1.length : Int)) = true := decide_eq_true c6
              clear c6
              obtain ⟨t303, A7, H⟩ := bo H
              by_cases c8 : t303 = true
              · subst c8
                replace H := it H rfl
                have H' := Aside0.mk H
                clear H
                try go_wp2
                have n0 := ra (below_drew1 HB.out)
                clear HB
                have HB := n0
                clear n0
                have p301 : 0 ≤ (x5_1 : Int) := od
                have q301 : x5_1 < (l0.length : Int) := od
                obtain ⟨ad301, A301_1, c301_1, e301, hx301_0, hx301_1, hl301_1, hi301_1⟩ := at_T39 HR0.out x5_1 p301 q301
                have hw301_1 := hx301_1
                have hw301_0 := hx301_0
                cases e301
                replace hx301_0 := hc HB hx301_0
                replace hx301_1 := hc HB hx301_1
                have HR301_1 := Aside0.mk hi301_1
                have HC301_1 := Aside0.mk hl301_1
                clear hi301_1 hl301_1
                replace p301 := eq_true p301
                replace q301 := eq_true q301
                have p302 : 0 ≤ (x5_1 : Int) := od
                have q302 : x5_1 < (l1.length : Int) := od
                obtain ⟨ad302, A302_1, c302_1, e302, hx302_0, hx302_1, hl302_1, hi302_1⟩ := at_T39 HR1.out x5_1 p302 q302
                have hw302_1 := hx302_1
                have hw302_0 := hx302_0
                cases e302
                replace hx302_0 := hc HB hx302_0
                replace hx302_1 := hc HB hx302_1
                have HR302_1 := Aside0.mk hi302_1
                have HC302_1 := Aside0.mk hl302_1
                clear hi302_1 hl302_1
                replace p302 := eq_true p302
                replace q302 := eq_true q302
                refine start_ (n := 10) (S := fun w' => w'.cell? (ad301.add ((x5_1).toNat * 2)) = some (.string ((rd_T39 l0 x5_1).f0)) ∧ w'.cell? ⟨(ad301.add ((x5_1).toNat * 2)).block, (ad301.add ((x5_1).toNat * 2)).off + 1, none⟩ = some (.slice A301_1 ((rd_T39 l0 x5_1).f1).length c301_1) ∧ w'.cell? (ad302.add ((x5_1).toNat * 2)) = some (.string ((rd_T39 l1 x5_1).f0)) ∧ w'.cell? ⟨(ad302.add ((x5_1).toNat * 2)).block, (ad302.add ((x5_1).toNat * 2)).off + 1, none⟩ = some (.slice A302_1 ((rd_T39 l1 x5_1).f1).length c302_1)) (ds := []) (bl 10 0) (by kernel_rfl) rfl rfl ⟨(hc HB hw301_0), (hc HB hw301_1), (hc HB hw302_0), (hc HB hw302_1)⟩ (fun hHeld => ?_); refine with_tabW laws_eqProbeTubeS.tab6 laws_eqProbeTubeS.bits6 (fun HT_ HW_ => ?_)
                generalize wr.drew = w9 at HB HR301_1 HR302_1 hx301_0 hx301_1 hx302_0 hx302_1 hHeld ⊢
                refine pu 0 17 (bl 10 1) ?_
                refine pu 1 18 (bl 10 3) ?_
                refine pu 2 19 (bl 10 7) ?_
                refine pu 4 21 (bl 10 23) ?_
                refine pu 5 22 (bl 10 55) ?_
                refine pu 6 23 (bl 10 119) ?_
                refine tk 3 20 (bl 10 127) ?_ hHeld
                refine tk 7 24 (bl 10 255) ?_ hHeld
                refine oe 8 25 (bl 10 511) (fun K hK => ?_)
                refine gs Try.func24 #[.agg #[.string ((rd_T39 l0 x5_1).f0), .slice A301_1 ((rd_T39 l0 x5_1).f1).length c301_1], .agg #[.string ((rd_T39 l1 x5_1).f0), .slice A302_1 ((rd_T39 l1 x5_1).f1).length c302_1]] ?_
                with_reducible refine (laws_eqProbeTube.calls k1 ((rd_T39 l0 x5_1).f0) _ _ ((rd_T39 l0 x5_1).f1) ((rd_T39 l1 x5_1).f0) _ _ ((rd_T39 l1 x5_1).f1) true _ ?side1 ?side2 ?side3 ?side4 A7.out).mono ?_
                (case side1 => exact sc HR301_1)
                (case side2 => exact HC301_1.out)
                (case side3 => exact sc HR302_1)
                (case side4 => exact HC302_1.out)
                rintro e w10 ⟨rfl, hb⟩
                refine ⟨_, rfl, ?_⟩
                have n0 := bs hb
                clear HB
                have HB := n0
                clear n0
                (try clear hb)
                (try clear hb2)
                (try clear hk)
                (try clear hi)
                refine hK.out _ _ ⟨(hc HB hw301_0), (hc HB hw301_1), (hc HB hw302_0), (hc HB hw302_1)⟩ (fun hHeld => ?_)
                clear hK K
                refine nm 25 ?_
                refine pu 9 26 (bl 10 1023) ?_
                refine done_ (done_of HT_.out (by kernel_rfl)) ?_
                try go_wp2
                go_roundg k1
                case measure => have := HK1.out; omega
                case rel => exact ⟨(wrap64 (x5_1 + 1)), rs, H', ⟨by have := HK1.out; omega⟩, ⟨bq⟩⟩
              · replace c8 := Bool.eq_false_iff.mpr c8
                subst c8
                have H1 : (some false) = some r := by rw [if_neg (show ¬ (false = true) by decide)] at H; exact H
                clear H
                have H := H1
                clear H1
                obtain rfl := Option.some.inj H
                try go_wp2
                have n0 := ra (below_drew1 HB.out)
                clear HB
                have HB := n0
                clear n0
                have p301 : 0 ≤ (x5_1 : Int) := od
                have q301 : x5_1 < (l0.length : Int) := od
                obtain ⟨ad301, A301_1, c301_1, e301, hx301_0, hx301_1, hl301_1, hi301_1⟩ := at_T39 HR0.out x5_1 p301 q301
                have hw301_1 := hx301_1
                have hw301_0 := hx301_0
                cases e301
                replace hx301_0 := hc HB hx301_0
                replace hx301_1 := hc HB hx301_1
                have HR301_1 := Aside0.mk hi301_1
                have HC301_1 := Aside0.mk hl301_1
                clear hi301_1 hl301_1
                replace p301 := eq_true p301
                replace q301 := eq_true q301
                have p302 : 0 ≤ (x5_1 : Int) := od
                have q302 : x5_1 < (l1.length : Int) := od
                obtain ⟨ad302, A302_1, c302_1, e302, hx302_0, hx302_1, hl302_1, hi302_1⟩ := at_T39 HR1.out x5_1 p302 q302
                have hw302_1 := hx302_1
                have hw302_0 := hx302_0
                cases e302
                replace hx302_0 := hc HB hx302_0
                replace hx302_1 := hc HB hx302_1
                have HR302_1 := Aside0.mk hi302_1
                have HC302_1 := Aside0.mk hl302_1
                clear hi302_1 hl302_1
                replace p302 := eq_true p302
                replace q302 := eq_true q302
                refine start_ (n := 10) (S := fun w' => w'.cell? (ad301.add ((x5_1).toNat * 2)) = some (.string ((rd_T39 l0 x5_1).f0)) ∧ w'.cell? ⟨(ad301.add ((x5_1).toNat * 2)).block, (ad301.add ((x5_1).toNat * 2)).off + 1, none⟩ = some (.slice A301_1 ((rd_T39 l0 x5_1).f1).length c301_1) ∧ w'.cell? (ad302.add ((x5_1).toNat * 2)) = some (.string ((rd_T39 l1 x5_1).f0)) ∧ w'.cell? ⟨(ad302.add ((x5_1).toNat * 2)).block, (ad302.add ((x5_1).toNat * 2)).off + 1, none⟩ = some (.slice A302_1 ((rd_T39 l1 x5_1).f1).length c302_1)) (ds := []) (bl 10 0) (by kernel_rfl) rfl rfl ⟨(hc HB hw301_0), (hc HB hw301_1), (hc HB hw302_0), (hc HB hw302_1)⟩ (fun hHeld => ?_); refine with_tabW laws_eqProbeTubeS.tab6 laws_eqProbeTubeS.bits6 (fun HT_ HW_ => ?_)
                generalize wr.drew = w11 at HB HR301_1 HR302_1 hx301_0 hx301_1 hx302_0 hx302_1 hHeld ⊢
                refine pu 0 17 (bl 10 1) ?_
                refine pu 1 18 (bl 10 3) ?_
                refine pu 2 19 (bl 10 7) ?_
                refine pu 4 21 (bl 10 23) ?_
                refine pu 5 22 (bl 10 55) ?_
                refine pu 6 23 (bl 10 119) ?_
                refine tk 3 20 (bl 10 127) ?_ hHeld
                refine tk 7 24 (bl 10 255) ?_ hHeld
                refine oe 8 25 (bl 10 511) (fun K hK => ?_)
                refine gs Try.func24 #[.agg #[.string ((rd_T39 l0 x5_1).f0), .slice A301_1 ((rd_T39 l0 x5_1).f1).length c301_1], .agg #[.string ((rd_T39 l1 x5_1).f0), .slice A302_1 ((rd_T39 l1 x5_1).f1).length c302_1]] ?_
                with_reducible refine (laws_eqProbeTube.calls k1 ((rd_T39 l0 x5_1).f0) _ _ ((rd_T39 l0 x5_1).f1) ((rd_T39 l1 x5_1).f0) _ _ ((rd_T39 l1 x5_1).f1) false _ ?side1 ?side2 ?side3 ?side4 A7.out).mono ?_
                (case side1 => exact sc HR301_1)
                (case side2 => exact HC301_1.out)
                (case side3 => exact sc HR302_1)
                (case side4 => exact HC302_1.out)
                rintro e w12 ⟨rfl, hb⟩
                refine ⟨_, rfl, ?_⟩
                have n0 := bs hb
                clear HB
                have HB := n0
                clear n0
                (try clear hb)
                (try clear hb2)
                (try clear hk)
                (try clear hi)
                refine hK.out _ _ ⟨(hc HB hw301_0), (hc HB hw301_1), (hc HB hw302_0), (hc HB hw302_1)⟩ (fun hHeld => ?_)
                clear hK K
                refine nm 25 ?_
                refine pu 9 26 (bl 10 1023) ?_
                refine done_ (done_of HT_.out (by kernel_rfl)) ?_
                try go_wp2
                go_ret
                exact ⟨re, bq⟩
            · rw [if_neg c6] at H
              exact absurd H (by simp)
          · rw [if_neg c5] at H
            exact absurd H (by simp)
        · rw [if_neg c4] at H
          have c4b0 : decide (x5_1 < (l0.length : Int)) = false := decide_eq_false c4
          clear c4
          obtain rfl := Option.some.inj H
          go_wp2
          go_ret
          exact ⟨re, bq⟩
  · rw [if_neg c3] at H
    have c3b0 : ((l0.length : Int) == (l1.length : Int)) = false := beq_eq_false_iff_ne.mpr c3
    have c3b1 : ((l0.length : Int) != (l1.length : Int)) = true := bne_iff_ne.mpr c3
    have c3b2 : (l0.length == l1.length) = false := by first | simpa using c3 | (simp at c3 ⊢; omega)
    obtain rfl := Option.some.inj H
    go_enter Try.func31, Try.ntmps31
    go_wp2
    go_ret
    exact ⟨re, bq⟩
end Go.Proofs.Ytfoapgcnjnogiaa.PA
