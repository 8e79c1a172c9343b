/- A contract of the function laws_FnExactProbeClose. (Began as a print of the kit's tool.) -/
import Derived.Test.YtfoapgcnjnogiaaPAd
import Derived.Test.YtfoapgcnjnogiaaCx
import Derived.Test.YtfoapgcnjnogiaaC16
import Derived.Test.YtfoapgcnjnogiaaC18
import Derived.Test.YtfoapgcnjnogiaaC19
namespace Go.Proofs.Ytfoapgcnjnogiaa.PA
open Go.RowKit Go.Proofs.YtfoapgcnjnogiaaW.PrintWords Go.Proofs.YtfoapgcnjnogiaaW.PrintLast Go.Proofs.YtfoapgcnjnogiaaW.PrintMore Go.Proofs.Ytfoapgcnjnogiaa.Z
attribute [local go_sem] max2_int min2_int max_two min_two max_three min_three max_four min_four
set_option linter.unusedVariables false
set_option linter.unusedSimpArgs false
def laws_FnExactProbeClose.T1 : Bool × List (List Nat × List Nat) := (true, [([], []), ([0], [0]), ([], []), ([2, 1], [2]), ([1, 3, 3], [1, 3]), ([4], [4]), ([5], [5]), ([5], [5]), ([6, 4, 0, 1, 2, 3, 4, 5, 6], [6]), ([7, 8, 0, 1, 2, 3, 4, 5, 6, 7, 8], [7])])
def laws_FnExactProbeClose.B1 : List Nat := [0, 1, 0, 7, 15, 31, 63, 63, 127, 511]
theorem laws_FnExactProbeClose.tab1 : rtab .any (opsOf Try.f5 1) = laws_FnExactProbeClose.T1 := by kernel_rfl
theorem laws_FnExactProbeClose.bits1 : waitsOk laws_FnExactProbeClose.T1.2 laws_FnExactProbeClose.B1 = true := by kernel_rfl
def laws_FnExactProbeClose.T2 : Bool × List (List Nat × List Nat) := (true, [([], []), ([0], [0]), ([], []), ([2, 1], [2]), ([1, 3, 3], [1, 3]), ([4], [4]), ([5], [5]), ([5], [5]), ([6, 4, 0, 1, 2, 3, 4, 5, 6], [6]), ([7, 8, 0, 1, 2, 3, 4, 5, 6, 7, 8], [7])])
def laws_FnExactProbeClose.B2 : List Nat := [0, 1, 0, 7, 15, 31, 63, 63, 127, 511]
theorem laws_FnExactProbeClose.tab2 : rtab .any (opsOf Try.f5 2) = laws_FnExactProbeClose.T2 := by kernel_rfl
theorem laws_FnExactProbeClose.bits2 : waitsOk laws_FnExactProbeClose.T2.2 laws_FnExactProbeClose.B2 = true := by kernel_rfl
set_option maxHeartbeats 8000000 in
set_option maxRecDepth 100000 in
theorem laws_FnExactProbeClose.calls (k : Nat) (a0_0 : Int) (a0_1 : Int) (a0_2 : Int) (a0_3 : Int) (a0_4 : Int) (a0_5 : Int) (a1_0 : Int) (a1_1 : Int) (a1_2 : Int) (a1_3 : Int) (a1_4 : Int) (a1_5 : Int) (r : Bool) (w : World) (h : laws_FnExactProbeClose.f k a0_0 a0_1 a0_2 a0_3 a0_4 a0_5 a1_0 a1_1 a1_2 a1_3 a1_4 a1_5 = some r) :
    Calls Try.prog 5 #[.agg #[.int .i64 a0_0, .int .i64 a0_1, .int .i64 a0_2, .int .i64 a0_3, .int .i64 a0_4, .int .i64 a0_5], .agg #[.int .i64 a1_0, .int .i64 a1_1, .int .i64 a1_2, .int .i64 a1_3, .int .i64 a1_4, .int .i64 a1_5]] w fun e w' => e = .returned (.bool r) ∧ Below w.heap.size w w' := by
  have hu24 := Try.underlying24
  have HB := ra (Below.refl w.heap.size w)
  have H : ((laws_toProbeBox.f a0_0 a0_1 a0_2 a0_3 a0_4 a0_5).bind fun bt145 => ((laws_toProbeBox.f a1_0 a1_1 a1_2 a1_3 a1_4 a1_5).bind fun bt151 => ((spec_ProbeClose.f k bt145.1 bt145.2.1 bt145.2.2.1 bt145.2.2.2.1 bt145.2.2.2.2.1 bt145.2.2.2.2.2 bt151.1 bt151.2.1 bt151.2.2.1 bt151.2.2.2.1 bt151.2.2.2.2.1 bt151.2.2.2.2.2).bind fun bt157 => ((laws_toProbeBox.f a0_0 a0_1 a0_2 a0_3 a0_4 a0_5).bind fun bt159 => ((laws_toProbeBox.f a1_0 a1_1 a1_2 a1_3 a1_4 a1_5).bind fun bt165 => ((impl_ProbeClose.f k bt159.1 bt159.2.1 bt159.2.2.1 bt159.2.2.2.1 bt159.2.2.2.2.1 bt159.2.2.2.2.2 bt165.1 bt165.2.1 bt165.2.2.1 bt165.2.2.2.1 bt165.2.2.2.2.1 bt165.2.2.2.2.2).bind fun bt171 => (if bt171.1 = bt157.1 then (if (bt171.2 != bt157.2) = true then (some false) else (some true)) else (some false)))))))) = some r := h
  clear h
  obtain ⟨⟨t145, t146, t147, t148, t149, t150⟩, A3, H⟩ := bo H
  try dsimp only at H
  obtain ⟨⟨t151, t152, t153, t154, t155, t156⟩, A4, H⟩ := bo H
  try dsimp only at H
  obtain ⟨⟨t157, t158⟩, A5, H⟩ := bo H
  try dsimp only at H
  obtain ⟨⟨t159, t160, t161, t162, t163, t164⟩, A6, H⟩ := bo H
  try dsimp only at H
  obtain ⟨⟨t165, t166, t167, t168, t169, t170⟩, A7, H⟩ := bo H
  try dsimp only at H
  obtain ⟨⟨t171, t172⟩, A8, H⟩ := bo H
  try dsimp only at H
  by_cases c9 : t171 = t157
  · rw [if_pos c9] at H
    have c9b0 : (t171 == t157) = true := beq_iff_eq.mpr c9
    have c9b1 : (t171 != t157) = false := bne_eq_false_iff_eq.mpr c9
    clear c9
    by_cases c10 : (t172 != t158) = true
    · rw [if_pos c10] at H
      have c10b0 : (t172 != t158) = true := c10
      (try (have c10b1 : decide (t172 = t158) = false := by simpa using c10))
      (try (have c10b2 : (t172 == t158) = false := by simpa using c10))
      (try (have c10b3 : ¬ (t172 = t158) := by simpa using c10))
      clear c10
      obtain rfl := Option.some.inj H
      go_enter Try.func5, Try.ntmps5
      try go_wp2_with (first | ((with_reducible refine gate_dst (N := 2) rfl ?_); refine be 2 #[.int .i64 a0_0, .int .i64 a0_1, .int .i64 a0_2, .int .i64 a0_3, .int .i64 a0_4, .int .i64 a0_5] 24 ?_; intro gb143 hg w11 hbox hb; have n0 := bs hb; have n1 := ra (hbox); have n2 := bz (w0 := w) hg; have n3 := bz (w0 := w) hg; clear HB; have HB := n0; have BK143 := n1; have GW143 := n2; have GE143 := n3; clear n0 n1 n2 n3; clear hb hbox hg) | ((with_reducible refine gate_dst (N := 3) rfl ?_); refine be 3 #[.int .i64 a1_0, .int .i64 a1_1, .int .i64 a1_2, .int .i64 a1_3, .int .i64 a1_4, .int .i64 a1_5] 24 ?_; intro gb144 hg w12 hbox hb; have n0 := bb (bk BK143) hb; have n1 := bs hb; have n2 := ra (hbox); have n3 := bz (w0 := w) hg; have n4 := bz (w0 := w) hg; have n5 := bn hg (bk BK143); have n6 := bm hg (bk BK143); clear BK143 HB; have BK143 := n0; have HB := n1; have BK144 := n2; have GW144 := n3; have GE144 := n4; have NB143_144 := n5; have NB144_143 := n6; clear n0 n1 n2 n3 n4 n5 n6; clear hb hbox hg))
      have n0 := ra (blk_drew BK143.out)
      have n1 := ra (blk_drew BK144.out)
      have n2 := ra (below_drew1 HB.out)
      clear BK143 BK144 HB
      have BK143 := n0
      have BK144 := n1
      have HB := n2
      clear n0 n1 n2
      refine start_ (n := 10) (S := fun w' => w'.cell? ⟨gb143, 0, none⟩ = some (.int .i64 a0_0) ∧ w'.cell? ⟨gb143, 1, none⟩ = some (.int .i64 a0_1) ∧ w'.cell? ⟨gb143, 2, none⟩ = some (.int .i64 a0_2) ∧ w'.cell? ⟨gb143, 3, none⟩ = some (.int .i64 a0_3) ∧ w'.cell? ⟨gb143, 4, none⟩ = some (.int .i64 a0_4) ∧ w'.cell? ⟨gb143, 5, none⟩ = some (.int .i64 a0_5) ∧ w'.cell? ⟨gb144, 0, none⟩ = some (.int .i64 a1_0) ∧ w'.cell? ⟨gb144, 1, none⟩ = some (.int .i64 a1_1) ∧ w'.cell? ⟨gb144, 2, none⟩ = some (.int .i64 a1_2) ∧ w'.cell? ⟨gb144, 3, none⟩ = some (.int .i64 a1_3) ∧ w'.cell? ⟨gb144, 4, none⟩ = some (.int .i64 a1_4) ∧ w'.cell? ⟨gb144, 5, none⟩ = some (.int .i64 a1_5)) (ds := []) (bl 10 0) (by kernel_rfl) rfl rfl ⟨(blk_cell BK143.out 0).trans rfl, (blk_cell BK143.out 1).trans rfl, (blk_cell BK143.out 2).trans rfl, (blk_cell BK143.out 3).trans rfl, (blk_cell BK143.out 4).trans rfl, (blk_cell BK143.out 5).trans rfl, (blk_cell BK144.out 0).trans rfl, (blk_cell BK144.out 1).trans rfl, (blk_cell BK144.out 2).trans rfl, (blk_cell BK144.out 3).trans rfl, (blk_cell BK144.out 4).trans rfl, (blk_cell BK144.out 5).trans rfl⟩ (fun hHeld => ?_); refine with_tabW laws_FnExactProbeClose.tab1 laws_FnExactProbeClose.bits1 (fun HT_ HW_ => ?_)
      generalize w12.drew = w13 at BK143 BK144 HB hHeld ⊢
      refine tk 0 10 (bl 10 1) ?_ hHeld
      refine tk 2 12 (bl 10 5) ?_ hHeld
      refine oe 1 11 (bl 10 7) (fun K hK => ?_)
      refine gs Try.func16 #[.agg #[.int .i64 a0_0, .int .i64 a0_1, .int .i64 a0_2, .int .i64 a0_3, .int .i64 a0_4, .int .i64 a0_5]] ?_
      with_reducible refine (laws_toProbeBox.calls a0_0 a0_1 a0_2 a0_3 a0_4 a0_5 t145 t146 t147 t148 t149 t150 _ A3.out).mono ?_
      rintro e w14 ⟨rfl, hb⟩
      refine ⟨_, rfl, ?_⟩
      have n0 := bb (bk BK143) hb
      have n1 := bb (bk BK144) hb
      have n2 := bs hb
      clear BK143 BK144 HB
      have BK143 := n0
      have BK144 := n1
      have HB := n2
      clear n0 n1 n2
      (try clear hb)
      (try clear hb2)
      (try clear hk)
      (try clear hi)
      refine hK.out _ _ ⟨(blk_cell BK143.out 0).trans rfl, (blk_cell BK143.out 1).trans rfl, (blk_cell BK143.out 2).trans rfl, (blk_cell BK143.out 3).trans rfl, (blk_cell BK143.out 4).trans rfl, (blk_cell BK143.out 5).trans rfl, (blk_cell BK144.out 0).trans rfl, (blk_cell BK144.out 1).trans rfl, (blk_cell BK144.out 2).trans rfl, (blk_cell BK144.out 3).trans rfl, (blk_cell BK144.out 4).trans rfl, (blk_cell BK144.out 5).trans rfl⟩ (fun hHeld => ?_)
      clear hK K
      refine nm 11 ?_
      refine oe 3 13 (bl 10 15) (fun K hK => ?_)
      refine gs Try.func16 #[.agg #[.int .i64 a1_0, .int .i64 a1_1, .int .i64 a1_2, .int .i64 a1_3, .int .i64 a1_4, .int .i64 a1_5]] ?_
      with_reducible refine (laws_toProbeBox.calls a1_0 a1_1 a1_2 a1_3 a1_4 a1_5 t151 t152 t153 t154 t155 t156 _ A4.out).mono ?_
      rintro e w15 ⟨rfl, hb⟩
      refine ⟨_, rfl, ?_⟩
      have n0 := bb (bk BK143) hb
      have n1 := bb (bk BK144) hb
      have n2 := bs hb
      clear BK143 BK144 HB
      have BK143 := n0
      have BK144 := n1
      have HB := n2
      clear n0 n1 n2
      (try clear hb)
      (try clear hb2)
      (try clear hk)
      (try clear hi)
      refine hK.out _ _ ⟨(blk_cell BK143.out 0).trans rfl, (blk_cell BK143.out 1).trans rfl, (blk_cell BK143.out 2).trans rfl, (blk_cell BK143.out 3).trans rfl, (blk_cell BK143.out 4).trans rfl, (blk_cell BK143.out 5).trans rfl, (blk_cell BK144.out 0).trans rfl, (blk_cell BK144.out 1).trans rfl, (blk_cell BK144.out 2).trans rfl, (blk_cell BK144.out 3).trans rfl, (blk_cell BK144.out 4).trans rfl, (blk_cell BK144.out 5).trans rfl⟩ (fun hHeld => ?_)
      clear hK K
      refine nm 13 ?_
      refine oe 4 14 (bl 10 31) (fun K hK => ?_)
      refine gs Try.func18 #[.agg #[.int .i64 t145, .int .i64 t146, .int .i64 t147, .int .i64 t148, .int .i64 t149, .int .i64 t150], .agg #[.int .i64 t151, .int .i64 t152, .int .i64 t153, .int .i64 t154, .int .i64 t155, .int .i64 t156]] ?_
      with_reducible refine (spec_ProbeClose.calls k t145 t146 t147 t148 t149 t150 t151 t152 t153 t154 t155 t156 t157 t158 _ A5.out).mono ?_
      rintro e w16 ⟨rfl, hb⟩
      refine ⟨_, rfl, ?_⟩
      have n0 := bb (bk BK143) hb
      have n1 := bb (bk BK144) hb
      have n2 := bs hb
      clear BK143 BK144 HB
      have BK143 := n0
      have BK144 := n1
      have HB := n2
      clear n0 n1 n2
      (try clear hb)
      (try clear hb2)
      (try clear hk)
      (try clear hi)
      refine hK.out _ _ ⟨(blk_cell BK143.out 0).trans rfl, (blk_cell BK143.out 1).trans rfl, (blk_cell BK143.out 2).trans rfl, (blk_cell BK143.out 3).trans rfl, (blk_cell BK143.out 4).trans rfl, (blk_cell BK143.out 5).trans rfl, (blk_cell BK144.out 0).trans rfl, (blk_cell BK144.out 1).trans rfl, (blk_cell BK144.out 2).trans rfl, (blk_cell BK144.out 3).trans rfl, (blk_cell BK144.out 4).trans rfl, (blk_cell BK144.out 5).trans rfl⟩ (fun hHeld => ?_)
      clear hK K
      refine nm 14 ?_
      refine pu 5 9 (bl 10 63) ?_
      refine pu 6 15 (bl 10 127) ?_
      refine pu 7 16 (bl 10 255) ?_
      refine pu 8 5 (bl 10 511) ?_
      refine pu 9 6 (bl 10 1023) ?_
      refine done_ (done_of HT_.out (by kernel_rfl)) ?_
      try go_wp2
      have n0 := ra (blk_drew BK143.out)
      have n1 := ra (blk_drew BK144.out)
      have n2 := ra (below_drew1 HB.out)
      clear BK143 BK144 HB
      have BK143 := n0
      have BK144 := n1
      have HB := n2
      clear n0 n1 n2
      refine start_ (n := 10) (S := fun w' => w'.cell? ⟨gb143, 0, none⟩ = some (.int .i64 a0_0) ∧ w'.cell? ⟨gb143, 1, none⟩ = some (.int .i64 a0_1) ∧ w'.cell? ⟨gb143, 2, none⟩ = some (.int .i64 a0_2) ∧ w'.cell? ⟨gb143, 3, none⟩ = some (.int .i64 a0_3) ∧ w'.cell? ⟨gb143, 4, none⟩ = some (.int .i64 a0_4) ∧ w'.cell? ⟨gb143, 5, none⟩ = some (.int .i64 a0_5) ∧ w'.cell? ⟨gb144, 0, none⟩ = some (.int .i64 a1_0) ∧ w'.cell? ⟨gb144, 1, none⟩ = some (.int .i64 a1_1) ∧ w'.cell? ⟨gb144, 2, none⟩ = some (.int .i64 a1_2) ∧ w'.cell? ⟨gb144, 3, none⟩ = some (.int .i64 a1_3) ∧ w'.cell? ⟨gb144, 4, none⟩ = some (.int .i64 a1_4) ∧ w'.cell? ⟨gb144, 5, none⟩ = some (.int .i64 a1_5)) (ds := []) (bl 10 0) (by kernel_rfl) rfl rfl ⟨(blk_cell BK143.out 0).trans rfl, (blk_cell BK143.out 1).trans rfl, (blk_cell BK143.out 2).trans rfl, (blk_cell BK143.out 3).trans rfl, (blk_cell BK143.out 4).trans rfl, (blk_cell BK143.out 5).trans rfl, (blk_cell BK144.out 0).trans rfl, (blk_cell BK144.out 1).trans rfl, (blk_cell BK144.out 2).trans rfl, (blk_cell BK144.out 3).trans rfl, (blk_cell BK144.out 4).trans rfl, (blk_cell BK144.out 5).trans rfl⟩ (fun hHeld => ?_); refine with_tabW laws_FnExactProbeClose.tab2 laws_FnExactProbeClose.bits2 (fun HT_ HW_ => ?_)
      generalize w16.drew = w17 at BK143 BK144 HB hHeld ⊢
      refine tk 0 18 (bl 10 1) ?_ hHeld
      refine tk 2 20 (bl 10 5) ?_ hHeld
      refine oe 1 19 (bl 10 7) (fun K hK => ?_)
      refine gs Try.func16 #[.agg #[.int .i64 a0_0, .int .i64 a0_1, .int .i64 a0_2, .int .i64 a0_3, .int .i64 a0_4, .int .i64 a0_5]] ?_
      with_reducible refine (laws_toProbeBox.calls a0_0 a0_1 a0_2 a0_3 a0_4 a0_5 t159 t160 t161 t162 t163 t164 _ A6.out).mono ?_
      rintro e w18 ⟨rfl, hb⟩
      refine ⟨_, rfl, ?_⟩
      have n0 := bb (bk BK143) hb
      have n1 := bb (bk BK144) hb
      have n2 := bs hb
      clear BK143 BK144 HB
      have BK143 := n0
      have BK144 := n1
      have HB := n2
      clear n0 n1 n2
      (try clear hb)
      (try clear hb2)
      (try clear hk)
      (try clear hi)
      refine hK.out _ _ ⟨(blk_cell BK143.out 0).trans rfl, (blk_cell BK143.out 1).trans rfl, (blk_cell BK143.out 2).trans rfl, (blk_cell BK143.out 3).trans rfl, (blk_cell BK143.out 4).trans rfl, (blk_cell BK143.out 5).trans rfl, (blk_cell BK144.out 0).trans rfl, (blk_cell BK144.out 1).trans rfl, (blk_cell BK144.out 2).trans rfl, (blk_cell BK144.out 3).trans rfl, (blk_cell BK144.out 4).trans rfl, (blk_cell BK144.out 5).trans rfl⟩ (fun hHeld => ?_)
      clear hK K
      refine nm 19 ?_
      refine oe 3 21 (bl 10 15) (fun K hK => ?_)
      refine gs Try.func16 #[.agg #[.int .i64 a1_0, .int .i64 a1_1, .int .i64 a1_2, .int .i64 a1_3, .int .i64 a1_4, .int .i64 a1_5]] ?_
      with_reducible refine (laws_toProbeBox.calls a1_0 a1_1 a1_2 a1_3 a1_4 a1_5 t165 t166 t167 t168 t169 t170 _ A7.out).mono ?_
      rintro e w19 ⟨rfl, hb⟩
      refine ⟨_, rfl, ?_⟩
      have n0 := bb (bk BK143) hb
      have n1 := bb (bk BK144) hb
      have n2 := bs hb
      clear BK143 BK144 HB
      have BK143 := n0
      have BK144 := n1
      have HB := n2
      clear n0 n1 n2
      (try clear hb)
      (try clear hb2)
      (try clear hk)
      (try clear hi)
      refine hK.out _ _ ⟨(blk_cell BK143.out 0).trans rfl, (blk_cell BK143.out 1).trans rfl, (blk_cell BK143.out 2).trans rfl, (blk_cell BK143.out 3).trans rfl, (blk_cell BK143.out 4).trans rfl, (blk_cell BK143.out 5).trans rfl, (blk_cell BK144.out 0).trans rfl, (blk_cell BK144.out 1).trans rfl, (blk_cell BK144.out 2).trans rfl, (blk_cell BK144.out 3).trans rfl, (blk_cell BK144.out 4).trans rfl, (blk_cell BK144.out 5).trans rfl⟩ (fun hHeld => ?_)
      clear hK K
      refine nm 21 ?_
      refine oe 4 22 (bl 10 31) (fun K hK => ?_)
      refine gs Try.func19 #[.agg #[.int .i64 t159, .int .i64 t160, .int .i64 t161, .int .i64 t162, .int .i64 t163, .int .i64 t164], .agg #[.int .i64 t165, .int .i64 t166, .int .i64 t167, .int .i64 t168, .int .i64 t169, .int .i64 t170]] ?_
      with_reducible refine (impl_ProbeClose.calls k t159 t160 t161 t162 t163 t164 t165 t166 t167 t168 t169 t170 t171 t172 _ A8.out).mono ?_
      rintro e w20 ⟨rfl, hb⟩
      refine ⟨_, rfl, ?_⟩
      have n0 := bb (bk BK143) hb
      have n1 := bb (bk BK144) hb
      have n2 := bs hb
      clear BK143 BK144 HB
      have BK143 := n0
      have BK144 := n1
      have HB := n2
      clear n0 n1 n2
      (try clear hb)
      (try clear hb2)
      (try clear hk)
      (try clear hi)
      refine hK.out _ _ ⟨(blk_cell BK143.out 0).trans rfl, (blk_cell BK143.out 1).trans rfl, (blk_cell BK143.out 2).trans rfl, (blk_cell BK143.out 3).trans rfl, (blk_cell BK143.out 4).trans rfl, (blk_cell BK143.out 5).trans rfl, (blk_cell BK144.out 0).trans rfl, (blk_cell BK144.out 1).trans rfl, (blk_cell BK144.out 2).trans rfl, (blk_cell BK144.out 3).trans rfl, (blk_cell BK144.out 4).trans rfl, (blk_cell BK144.out 5).trans rfl⟩ (fun hHeld => ?_)
      clear hK K
      refine nm 22 ?_
      refine pu 5 17 (bl 10 63) ?_
      refine pu 6 23 (bl 10 127) ?_
      refine pu 7 24 (bl 10 255) ?_
      refine pu 8 7 (bl 10 511) ?_
      refine pu 9 8 (bl 10 1023) ?_
      refine done_ (done_of HT_.out (by kernel_rfl)) ?_
      try go_wp2
      go_ret
      exact ⟨re, bq⟩
    · rw [if_neg c10] at H
      have c10b0 : (t172 != t158) = false := by simpa using c10
      (try (have c10b1 : decide (t172 = t158) = true := by simpa using c10))
      (try (have c10b2 : (t172 == t158) = true := by simpa using c10))
      clear c10
      obtain rfl := Option.some.inj H
      go_enter Try.func5, Try.ntmps5
      try go_wp2_with (first | ((with_reducible refine gate_dst (N := 2) rfl ?_); refine be 2 #[.int .i64 a0_0, .int .i64 a0_1, .int .i64 a0_2, .int .i64 a0_3, .int .i64 a0_4, .int .i64 a0_5] 24 ?_; intro gb143 hg w21 hbox hb; have n0 := bs hb; have n1 := ra (hbox); have n2 := bz (w0 := w) hg; have n3 := bz (w0 := w) hg; clear HB; have HB := n0; have BK143 := n1; have GW143 := n2; have GE143 := n3; clear n0 n1 n2 n3; clear hb hbox hg) | ((with_reducible refine gate_dst (N := 3) rfl ?_); refine be 3 #[.int .i64 a1_0, .int .i64 a1_1, .int .i64 a1_2, .int .i64 a1_3, .int .i64 a1_4, .int .i64 a1_5] 24 ?_; intro gb144 hg w22 hbox hb; have n0 := bb (bk BK143) hb; have n1 := bs hb; have n2 := ra (hbox); have n3 := bz (w0 := w) hg; have n4 := bz (w0 := w) hg; have n5 := bn hg (bk BK143); have n6 := bm hg (bk BK143); clear BK143 HB; have BK143 := n0; have HB := n1; have BK144 := n2; have GW144 := n3; have GE144 := n4; have NB143_144 := n5; have NB144_143 := n6; clear n0 n1 n2 n3 n4 n5 n6; clear hb hbox hg))
      have n0 := ra (blk_drew BK143.out)
      have n1 := ra (blk_drew BK144.out)
      have n2 := ra (below_drew1 HB.out)
      clear BK143 BK144 HB
      have BK143 := n0
      have BK144 := n1
      have HB := n2
      clear n0 n1 n2
      refine start_ (n := 10) (S := fun w' => w'.cell? ⟨gb143, 0, none⟩ = some (.int .i64 a0_0) ∧ w'.cell? ⟨gb143, 1, none⟩ = some (.int .i64 a0_1) ∧ w'.cell? ⟨gb143, 2, none⟩ = some (.int .i64 a0_2) ∧ w'.cell? ⟨gb143, 3, none⟩ = some (.int .i64 a0_3) ∧ w'.cell? ⟨gb143, 4, none⟩ = some (.int .i64 a0_4) ∧ w'.cell? ⟨gb143, 5, none⟩ = some (.int .i64 a0_5) ∧ w'.cell? ⟨gb144, 0, none⟩ = some (.int .i64 a1_0) ∧ w'.cell? ⟨gb144, 1, none⟩ = some (.int .i64 a1_1) ∧ w'.cell? ⟨gb144, 2, none⟩ = some (.int .i64 a1_2) ∧ w'.cell? ⟨gb144, 3, none⟩ = some (.int .i64 a1_3) ∧ w'.cell? ⟨gb144, 4, none⟩ = some (.int .i64 a1_4) ∧ w'.cell? ⟨gb144, 5, none⟩ = some (.int .i64 a1_5)) (ds := []) (bl 10 0) (by kernel_rfl) rfl rfl ⟨(blk_cell BK143.out 0).trans rfl, (blk_cell BK143.out 1).trans rfl, (blk_cell BK143.out 2).trans rfl, (blk_cell BK143.out 3).trans rfl, (blk_cell BK143.out 4).trans rfl, (blk_cell BK143.out 5).trans rfl, (blk_cell BK144.out 0).trans rfl, (blk_cell BK144.out 1).trans rfl, (blk_cell BK144.out 2).trans rfl, (blk_cell BK144.out 3).trans rfl, (blk_cell BK144.out 4).trans rfl, (blk_cell BK144.out 5).trans rfl⟩ (fun hHeld => ?_); refine with_tabW laws_FnExactProbeClose.tab1 laws_FnExactProbeClose.bits1 (fun HT_ HW_ => ?_)
      generalize w22.drew = w23 at BK143 BK144 HB hHeld ⊢
      refine tk 0 10 (bl 10 1) ?_ hHeld
      refine tk 2 12 (bl 10 5) ?_ hHeld
      refine oe 1 11 (bl 10 7) (fun K hK => ?_)
      refine gs Try.func16 #[.agg #[.int .i64 a0_0, .int .i64 a0_1, .int .i64 a0_2, .int .i64 a0_3, .int .i64 a0_4, .int .i64 a0_5]] ?_
      with_reducible refine (laws_toProbeBox.calls a0_0 a0_1 a0_2 a0_3 a0_4 a0_5 t145 t146 t147 t148 t149 t150 _ A3.out).mono ?_
      rintro e w24 ⟨rfl, hb⟩
      refine ⟨_, rfl, ?_⟩
      have n0 := bb (bk BK143) hb
      have n1 := bb (bk BK144) hb
      have n2 := bs hb
      clear BK143 BK144 HB
      have BK143 := n0
      have BK144 := n1
      have HB := n2
      clear n0 n1 n2
      (try clear hb)
      (try clear hb2)
      (try clear hk)
      (try clear hi)
      refine hK.out _ _ ⟨(blk_cell BK143.out 0).trans rfl, (blk_cell BK143.out 1).trans rfl, (blk_cell BK143.out 2).trans rfl, (blk_cell BK143.out 3).trans rfl, (blk_cell BK143.out 4).trans rfl, (blk_cell BK143.out 5).trans rfl, (blk_cell BK144.out 0).trans rfl, (blk_cell BK144.out 1).trans rfl, (blk_cell BK144.out 2).trans rfl, (blk_cell BK144.out 3).trans rfl, (blk_cell BK144.out 4).trans rfl, (blk_cell BK144.out 5).trans rfl⟩ (fun hHeld => ?_)
      clear hK K
      refine nm 11 ?_
      refine oe 3 13 (bl 10 15) (fun K hK => ?_)
      refine gs Try.func16 #[.agg #[.int .i64 a1_0, .int .i64 a1_1, .int .i64 a1_2, .int .i64 a1_3, .int .i64 a1_4, .int .i64 a1_5]] ?_
      with_reducible refine (laws_toProbeBox.calls a1_0 a1_1 a1_2 a1_3 a1_4 a1_5 t151 t152 t153 t154 t155 t156 _ A4.out).mono ?_
      rintro e w25 ⟨rfl, hb⟩
      refine ⟨_, rfl, ?_⟩
      have n0 := bb (bk BK143) hb
      have n1 := bb (bk BK144) hb
      have n2 := bs hb
      clear BK143 BK144 HB
      have BK143 := n0
      have BK144 := n1
      have HB := n2
      clear n0 n1 n2
      (try clear hb)
      (try clear hb2)
      (try clear hk)
      (try clear hi)
      refine hK.out _ _ ⟨(blk_cell BK143.out 0).trans rfl, (blk_cell BK143.out 1).trans rfl, (blk_cell BK143.out 2).trans rfl, (blk_cell BK143.out 3).trans rfl, (blk_cell BK143.out 4).trans rfl, (blk_cell BK143.out 5).trans rfl, (blk_cell BK144.out 0).trans rfl, (blk_cell BK144.out 1).trans rfl, (blk_cell BK144.out 2).trans rfl, (blk_cell BK144.out 3).trans rfl, (blk_cell BK144.out 4).trans rfl, (blk_cell BK144.out 5).trans rfl⟩ (fun hHeld => ?_)
      clear hK K
      refine nm 13 ?_
      refine oe 4 14 (bl 10 31) (fun K hK => ?_)
      refine gs Try.func18 #[.agg #[.int .i64 t145, .int .i64 t146, .int .i64 t147, .int .i64 t148, .int .i64 t149, .int .i64 t150], .agg #[.int .i64 t151, .int .i64 t152, .int .i64 t153, .int .i64 t154, .int .i64 t155, .int .i64 t156]] ?_
      with_reducible refine (spec_ProbeClose.calls k t145 t146 t147 t148 t149 t150 t151 t152 t153 t154 t155 t156 t157 t158 _ A5.out).mono ?_
      rintro e w26 ⟨rfl, hb⟩
      refine ⟨_, rfl, ?_⟩
      have n0 := bb (bk BK143) hb
      have n1 := bb (bk BK144) hb
      have n2 := bs hb
      clear BK143 BK144 HB
      have BK143 := n0
      have BK144 := n1
      have HB := n2
      clear n0 n1 n2
      (try clear hb)
      (try clear hb2)
      (try clear hk)
      (try clear hi)
      refine hK.out _ _ ⟨(blk_cell BK143.out 0).trans rfl, (blk_cell BK143.out 1).trans rfl, (blk_cell BK143.out 2).trans rfl, (blk_cell BK143.out 3).trans rfl, (blk_cell BK143.out 4).trans rfl, (blk_cell BK143.out 5).trans rfl, (blk_cell BK144.out 0).trans rfl, (blk_cell BK144.out 1).trans rfl, (blk_cell BK144.out 2).trans rfl, (blk_cell BK144.out 3).trans rfl, (blk_cell BK144.out 4).trans rfl, (blk_cell BK144.out 5).trans rfl⟩ (fun hHeld => ?_)
      clear hK K
      refine nm 14 ?_
      refine pu 5 9 (bl 10 63) ?_
      refine pu 6 15 (bl 10 127) ?_
      refine pu 7 16 (bl 10 255) ?_
      refine pu 8 5 (bl 10 511) ?_
      refine pu 9 6 (bl 10 1023) ?_
      refine done_ (done_of HT_.out (by kernel_rfl)) ?_
      try go_wp2
      have n0 := ra (blk_drew BK143.out)
      have n1 := ra (blk_drew BK144.out)
      have n2 := ra (below_drew1 HB.out)
      clear BK143 BK144 HB
      have BK143 := n0
      have BK144 := n1
      have HB := n2
      clear n0 n1 n2
      refine start_ (n := 10) (S := fun w' => w'.cell? ⟨gb143, 0, none⟩ = some (.int .i64 a0_0) ∧ w'.cell? ⟨gb143, 1, none⟩ = some (.int .i64 a0_1) ∧ w'.cell? ⟨gb143, 2, none⟩ = some (.int .i64 a0_2) ∧ w'.cell? ⟨gb143, 3, none⟩ = some (.int .i64 a0_3) ∧ w'.cell? ⟨gb143, 4, none⟩ = some (.int .i64 a0_4) ∧ w'.cell? ⟨gb143, 5, none⟩ = some (.int .i64 a0_5) ∧ w'.cell? ⟨gb144, 0, none⟩ = some (.int .i64 a1_0) ∧ w'.cell? ⟨gb144, 1, none⟩ = some (.int .i64 a1_1) ∧ w'.cell? ⟨gb144, 2, none⟩ = some (.int .i64 a1_2) ∧ w'.cell? ⟨gb144, 3, none⟩ = some (.int .i64 a1_3) ∧ w'.cell? ⟨gb144, 4, none⟩ = some (.int .i64 a1_4) ∧ w'.cell? ⟨gb144, 5, none⟩ = some (.int .i64 a1_5)) (ds := []) (bl 10 0) (by kernel_rfl) rfl rfl ⟨(blk_cell BK143.out 0).trans rfl, (blk_cell BK143.out 1).trans rfl, (blk_cell BK143.out 2).trans rfl, (blk_cell BK143.out 3).trans rfl, (blk_cell BK143.out 4).trans rfl, (blk_cell BK143.out 5).trans rfl, (blk_cell BK144.out 0).trans rfl, (blk_cell BK144.out 1).trans rfl, (blk_cell BK144.out 2).trans rfl, (blk_cell BK144.out 3).trans rfl, (blk_cell BK144.out 4).trans rfl, (blk_cell BK144.out 5).trans rfl⟩ (fun hHeld => ?_); refine with_tabW laws_FnExactProbeClose.tab2 laws_FnExactProbeClose.bits2 (fun HT_ HW_ => ?_)
      generalize w26.drew = w27 at BK143 BK144 HB hHeld ⊢
      refine tk 0 18 (bl 10 1) ?_ hHeld
      refine tk 2 20 (bl 10 5) ?_ hHeld
      refine oe 1 19 (bl 10 7) (fun K hK => ?_)
      refine gs Try.func16 #[.agg #[.int .i64 a0_0, .int .i64 a0_1, .int .i64 a0_2, .int .i64 a0_3, .int .i64 a0_4, .int .i64 a0_5]] ?_
      with_reducible refine (laws_toProbeBox.calls a0_0 a0_1 a0_2 a0_3 a0_4 a0_5 t159 t160 t161 t162 t163 t164 _ A6.out).mono ?_
      rintro e w28 ⟨rfl, hb⟩
      refine ⟨_, rfl, ?_⟩
      have n0 := bb (bk BK143) hb
      have n1 := bb (bk BK144) hb
      have n2 := bs hb
      clear BK143 BK144 HB
      have BK143 := n0
      have BK144 := n1
      have HB := n2
      clear n0 n1 n2
      (try clear hb)
      (try clear hb2)
      (try clear hk)
      (try clear hi)
      refine hK.out _ _ ⟨(blk_cell BK143.out 0).trans rfl, (blk_cell BK143.out 1).trans rfl, (blk_cell BK143.out 2).trans rfl, (blk_cell BK143.out 3).trans rfl, (blk_cell BK143.out 4).trans rfl, (blk_cell BK143.out 5).trans rfl, (blk_cell BK144.out 0).trans rfl, (blk_cell BK144.out 1).trans rfl, (blk_cell BK144.out 2).trans rfl, (blk_cell BK144.out 3).trans rfl, (blk_cell BK144.out 4).trans rfl, (blk_cell BK144.out 5).trans rfl⟩ (fun hHeld => ?_)
      clear hK K
      refine nm 19 ?_
      refine oe 3 21 (bl 10 15) (fun K hK => ?_)
      refine gs Try.func16 #[.agg #[.int .i64 a1_0, .int .i64 a1_1, .int .i64 a1_2, .int .i64 a1_3, .int .i64 a1_4, .int .i64 a1_5]] ?_
      with_reducible refine (laws_toProbeBox.calls a1_0 a1_1 a1_2 a1_3 a1_4 a1_5 t165 t166 t167 t168 t169 t170 _ A7.out).mono ?_
      rintro e w29 ⟨rfl, hb⟩
      refine ⟨_, rfl, ?_⟩
      have n0 := bb (bk BK143) hb
      have n1 := bb (bk BK144) hb
      have n2 := bs hb
      clear BK143 BK144 HB
      have BK143 := n0
      have BK144 := n1
      have HB := n2
      clear n0 n1 n2
      (try clear hb)
      (try clear hb2)
      (try clear hk)
      (try clear hi)
      refine hK.out _ _ ⟨(blk_cell BK143.out 0).trans rfl, (blk_cell BK143.out 1).trans rfl, (blk_cell BK143.out 2).trans rfl, (blk_cell BK143.out 3).trans rfl, (blk_cell BK143.out 4).trans rfl, (blk_cell BK143.out 5).trans rfl, (blk_cell BK144.out 0).trans rfl, (blk_cell BK144.out 1).trans rfl, (blk_cell BK144.out 2).trans rfl, (blk_cell BK144.out 3).trans rfl, (blk_cell BK144.out 4).trans rfl, (blk_cell BK144.out 5).trans rfl⟩ (fun hHeld => ?_)
      clear hK K
      refine nm 21 ?_
      refine oe 4 22 (bl 10 31) (fun K hK => ?_)
      refine gs Try.func19 #[.agg #[.int .i64 t159, .int .i64 t160, .int .i64 t161, .int .i64 t162, .int .i64 t163, .int .i64 t164], .agg #[.int .i64 t165, .int .i64 t166, .int .i64 t167, .int .i64 t168, .int .i64 t169, .int .i64 t170]] ?_
      with_reducible refine (impl_ProbeClose.calls k t159 t160 t161 t162 t163 t164 t165 t166 t167 t168 t169 t170 t171 t172 _ A8.out).mono ?_
      rintro e w30 ⟨rfl, hb⟩
      refine ⟨_, rfl, ?_⟩
      have n0 := bb (bk BK143) hb
      have n1 := bb (bk BK144) hb
      have n2 := bs hb
      clear BK143 BK144 HB
      have BK143 := n0
      have BK144 := n1
      have HB := n2
      clear n0 n1 n2
      (try clear hb)
      (try clear hb2)
      (try clear hk)
      (try clear hi)
      refine hK.out _ _ ⟨(blk_cell BK143.out 0).trans rfl, (blk_cell BK143.out 1).trans rfl, (blk_cell BK143.out 2).trans rfl, (blk_cell BK143.out 3).trans rfl, (blk_cell BK143.out 4).trans rfl, (blk_cell BK143.out 5).trans rfl, (blk_cell BK144.out 0).trans rfl, (blk_cell BK144.out 1).trans rfl, (blk_cell BK144.out 2).trans rfl, (blk_cell BK144.out 3).trans rfl, (blk_cell BK144.out 4).trans rfl, (blk_cell BK144.out 5).trans rfl⟩ (fun hHeld => ?_)
      clear hK K
      refine nm 22 ?_
      refine pu 5 17 (bl 10 63) ?_
      refine pu 6 23 (bl 10 127) ?_
      refine pu 7 24 (bl 10 255) ?_
      refine pu 8 7 (bl 10 511) ?_
      refine pu 9 8 (bl 10 1023) ?_
      refine done_ (done_of HT_.out (by kernel_rfl)) ?_
      try go_wp2
      go_ret
      exact ⟨re, bq⟩
  · rw [if_neg c9] at H
    have c9b0 : (t171 == t157) = false := beq_eq_false_iff_ne.mpr c9
    have c9b1 : (t171 != t157) = true := bne_iff_ne.mpr c9
    obtain rfl := Option.some.inj H
    go_enter Try.func5, Try.ntmps5
    try go_wp2_with (first | ((with_reducible refine gate_dst (N := 2) rfl ?_); refine be 2 #[.int .i64 a0_0, .int .i64 a0_1, .int .i64 a0_2, .int .i64 a0_3, .int .i64 a0_4, .int .i64 a0_5] 24 ?_; intro gb143 hg w31 hbox hb; have n0 := bs hb; have n1 := ra (hbox); have n2 := bz (w0 := w) hg; have n3 := bz (w0 := w) hg; clear HB; have HB := n0; have BK143 := n1; have GW143 := n2; have GE143 := n3; clear n0 n1 n2 n3; clear hb hbox hg) | ((with_reducible refine gate_dst (N := 3) rfl ?_); refine be 3 #[.int .i64 a1_0, .int .i64 a1_1, .int .i64 a1_2, .int .i64 a1_3, .int .i64 a1_4, .int .i64 a1_5] 24 ?_; intro gb144 hg w32 hbox hb; have n0 := bb (bk BK143) hb; have n1 := bs hb; have n2 := ra (hbox); have n3 := bz (w0 := w) hg; have n4 := bz (w0 := w) hg; have n5 := bn hg (bk BK143); have n6 := bm hg (bk BK143); clear BK143 HB; have BK143 := n0; have HB := n1; have BK144 := n2; have GW144 := n3; have GE144 := n4; have NB143_144 := n5; have NB144_143 := n6; clear n0 n1 n2 n3 n4 n5 n6; clear hb hbox hg))
    have n0 := ra (blk_drew BK143.out)
    have n1 := ra (blk_drew BK144.out)
    have n2 := ra (below_drew1 HB.out)
    clear BK143 BK144 HB
    have BK143 := n0
    have BK144 := n1
    have HB := n2
    clear n0 n1 n2
    refine start_ (n := 10) (S := fun w' => w'.cell? ⟨gb143, 0, none⟩ = some (.int .i64 a0_0) ∧ w'.cell? ⟨gb143, 1, none⟩ = some (.int .i64 a0_1) ∧ w'.cell? ⟨gb143, 2, none⟩ = some (.int .i64 a0_2) ∧ w'.cell? ⟨gb143, 3, none⟩ = some (.int .i64 a0_3) ∧ w'.cell? ⟨gb143, 4, none⟩ = some (.int .i64 a0_4) ∧ w'.cell? ⟨gb143, 5, none⟩ = some (.int .i64 a0_5) ∧ w'.cell? ⟨gb144, 0, none⟩ = some (.int .i64 a1_0) ∧ w'.cell? ⟨gb144, 1, none⟩ = some (.int .i64 a1_1) ∧ w'.cell? ⟨gb144, 2, none⟩ = some (.int .i64 a1_2) ∧ w'.cell? ⟨gb144, 3, none⟩ = some (.int .i64 a1_3) ∧ w'.cell? ⟨gb144, 4, none⟩ = some (.int .i64 a1_4) ∧ w'.cell? ⟨gb144, 5, none⟩ = some (.int .i64 a1_5)) (ds := []) (bl 10 0) (by kernel_rfl) rfl rfl ⟨(blk_cell BK143.out 0).trans rfl, (blk_cell BK143.out 1).trans rfl, (blk_cell BK143.out 2).trans rfl, (blk_cell BK143.out 3).trans rfl, (blk_cell BK143.out 4).trans rfl, (blk_cell BK143.out 5).trans rfl, (blk_cell BK144.out 0).trans rfl, (blk_cell BK144.out 1).trans rfl, (blk_cell BK144.out 2).trans rfl, (blk_cell BK144.out 3).trans rfl, (blk_cell BK144.out 4).trans rfl, (blk_cell BK144.out 5).trans rfl⟩ (fun hHeld => ?_); refine with_tabW laws_FnExactProbeClose.tab1 laws_FnExactProbeClose.bits1 (fun HT_ HW_ => ?_)
    generalize w32.drew = w33 at BK143 BK144 HB hHeld ⊢
    refine tk 0 10 (bl 10 1) ?_ hHeld
    refine tk 2 12 (bl 10 5) ?_ hHeld
    refine oe 1 11 (bl 10 7) (fun K hK => ?_)
    refine gs Try.func16 #[.agg #[.int .i64 a0_0, .int .i64 a0_1, .int .i64 a0_2, .int .i64 a0_3, .int .i64 a0_4, .int .i64 a0_5]] ?_
    with_reducible refine (laws_toProbeBox.calls a0_0 a0_1 a0_2 a0_3 a0_4 a0_5 t145 t146 t147 t148 t149 t150 _ A3.out).mono ?_
    rintro e w34 ⟨rfl, hb⟩
    refine ⟨_, rfl, ?_⟩
    have n0 := bb (bk BK143) hb
    have n1 := bb (bk BK144) hb
    have n2 := bs hb
    clear BK143 BK144 HB
    have BK143 := n0
    have BK144 := n1
    have HB := n2
    clear n0 n1 n2
    (try clear hb)
    (try clear hb2)
    (try clear hk)
    (try clear hi)
    refine hK.out _ _ ⟨(blk_cell BK143.out 0).trans rfl, (blk_cell BK143.out 1).trans rfl, (blk_cell BK143.out 2).trans rfl, (blk_cell BK143.out 3).trans rfl, (blk_cell BK143.out 4).trans rfl, (blk_cell BK143.out 5).trans rfl, (blk_cell BK144.out 0).trans rfl, (blk_cell BK144.out 1).trans rfl, (blk_cell BK144.out 2).trans rfl, (blk_cell BK144.out 3).trans rfl, (blk_cell BK144.out 4).trans rfl, (blk_cell BK144.out 5).trans rfl⟩ (fun hHeld => ?_)
    clear hK K
    refine nm 11 ?_
    refine oe 3 13 (bl 10 15) (fun K hK => ?_)
    refine gs Try.func16 #[.agg #[.int .i64 a1_0, .int .i64 a1_1, .int .i64 a1_2, .int .i64 a1_3, .int .i64 a1_4, .int .i64 a1_5]] ?_
    with_reducible refine (laws_toProbeBox.calls a1_0 a1_1 a1_2 a1_3 a1_4 a1_5 t151 t152 t153 t154 t155 t156 _ A4.out).mono ?_
    rintro e w35 ⟨rfl, hb⟩
    refine ⟨_, rfl, ?_⟩
    have n0 := bb (bk BK143) hb
    have n1 := bb (bk BK144) hb
    have n2 := bs hb
    clear BK143 BK144 HB
    have BK143 := n0
    have BK144 := n1
    have HB := n2
    clear n0 n1 n2
    (try clear hb)
    (try clear hb2)
    (try clear hk)
    (try clear hi)
    refine hK.out _ _ ⟨(blk_cell BK143.out 0).trans rfl, (blk_cell BK143.out 1).trans rfl, (blk_cell BK143.out 2).trans rfl, (blk_cell BK143.out 3).trans rfl, (blk_cell BK143.out 4).trans rfl, (blk_cell BK143.out 5).trans rfl, (blk_cell BK144.out 0).trans rfl, (blk_cell BK144.out 1).trans rfl, (blk_cell BK144.out 2).trans rfl, (blk_cell BK144.out 3).trans rfl, (blk_cell BK144.out 4).trans rfl, (blk_cell BK144.out 5).trans rfl⟩ (fun hHeld => ?_)
    clear hK K
    refine nm 13 ?_
    refine oe 4 14 (bl 10 31) (fun K hK => ?_)
    refine gs Try.func18 #[.agg #[.int .i64 t145, .int .i64 t146, .int .i64 t147, .int .i64 t148, .int .i64 t149, .int .i64 t150], .agg #[.int .i64 t151, .int .i64 t152, .int .i64 t153, .int .i64 t154, .int .i64 t155, .int .i64 t156]] ?_
    with_reducible refine (spec_ProbeClose.calls k t145 t146 t147 t148 t149 t150 t151 t152 t153 t154 t155 t156 t157 t158 _ A5.out).mono ?_
    rintro e w36 ⟨rfl, hb⟩
    refine ⟨_, rfl, ?_⟩
    have n0 := bb (bk BK143) hb
    have n1 := bb (bk BK144) hb
    have n2 := bs hb
    clear BK143 BK144 HB
    have BK143 := n0
    have BK144 := n1
    have HB := n2
    clear n0 n1 n2
    (try clear hb)
    (try clear hb2)
    (try clear hk)
    (try clear hi)
    refine hK.out _ _ ⟨(blk_cell BK143.out 0).trans rfl, (blk_cell BK143.out 1).trans rfl, (blk_cell BK143.out 2).trans rfl, (blk_cell BK143.out 3).trans rfl, (blk_cell BK143.out 4).trans rfl, (blk_cell BK143.out 5).trans rfl, (blk_cell BK144.out 0).trans rfl, (blk_cell BK144.out 1).trans rfl, (blk_cell BK144.out 2).trans rfl, (blk_cell BK144.out 3).trans rfl, (blk_cell BK144.out 4).trans rfl, (blk_cell BK144.out 5).trans rfl⟩ (fun hHeld => ?_)
    clear hK K
    refine nm 14 ?_
    refine pu 5 9 (bl 10 63) ?_
    refine pu 6 15 (bl 10 127) ?_
    refine pu 7 16 (bl 10 255) ?_
    refine pu 8 5 (bl 10 511) ?_
    refine pu 9 6 (bl 10 1023) ?_
    refine done_ (done_of HT_.out (by kernel_rfl)) ?_
    try go_wp2
    have n0 := ra (blk_drew BK143.out)
    have n1 := ra (blk_drew BK144.out)
    have n2 := ra (below_drew1 HB.out)
    clear BK143 BK144 HB
    have BK143 := n0
    have BK144 := n1
    have HB := n2
    clear n0 n1 n2
    refine start_ (n := 10) (S := fun w' => w'.cell? ⟨gb143, 0, none⟩ = some (.int .i64 a0_0) ∧ w'.cell? ⟨gb143, 1, none⟩ = some (.int .i64 a0_1) ∧ w'.cell? ⟨gb143, 2, none⟩ = some (.int .i64 a0_2) ∧ w'.cell? ⟨gb143, 3, none⟩ = some (.int .i64 a0_3) ∧ w'.cell? ⟨gb143, 4, none⟩ = some (.int .i64 a0_4) ∧ w'.cell? ⟨gb143, 5, none⟩ = some (.int .i64 a0_5) ∧ w'.cell? ⟨gb144, 0, none⟩ = some (.int .i64 a1_0) ∧ w'.cell? ⟨gb144, 1, none⟩ = some (.int .i64 a1_1) ∧ w'.cell? ⟨gb144, 2, none⟩ = some (.int .i64 a1_2) ∧ w'.cell? ⟨gb144, 3, none⟩ = some (.int .i64 a1_3) ∧ w'.cell? ⟨gb144, 4, none⟩ = some (.int .i64 a1_4) ∧ w'.cell? ⟨gb144, 5, none⟩ = some (.int .i64 a1_5)) (ds := []) (bl 10 0) (by kernel_rfl) rfl rfl ⟨(blk_cell BK143.out 0).trans rfl, (blk_cell BK143.out 1).trans rfl, (blk_cell BK143.out 2).trans rfl, (blk_cell BK143.out 3).trans rfl, (blk_cell BK143.out 4).trans rfl, (blk_cell BK143.out 5).trans rfl, (blk_cell BK144.out 0).trans rfl, (blk_cell BK144.out 1).trans rfl, (blk_cell BK144.out 2).trans rfl, (blk_cell BK144.out 3).trans rfl, (blk_cell BK144.out 4).trans rfl, (blk_cell BK144.out 5).trans rfl⟩ (fun hHeld => ?_); refine with_tabW laws_FnExactProbeClose.tab2 laws_FnExactProbeClose.bits2 (fun HT_ HW_ => ?_)
    generalize w36.drew = w37 at BK143 BK144 HB hHeld ⊢
    refine tk 0 18 (bl 10 1) ?_ hHeld
    refine tk 2 20 (bl 10 5) ?_ hHeld
    refine oe 1 19 (bl 10 7) (fun K hK => ?_)
    refine gs Try.func16 #[.agg #[.int .i64 a0_0, .int .i64 a0_1, .int .i64 a0_2, .int .i64 a0_3, .int .i64 a0_4, .int .i64 a0_5]] ?_
    with_reducible refine (laws_toProbeBox.calls a0_0 a0_1 a0_2 a0_3 a0_4 a0_5 t159 t160 t161 t162 t163 t164 _ A6.out).mono ?_
    rintro e w38 ⟨rfl, hb⟩
    refine ⟨_, rfl, ?_⟩
    have n0 := bb (bk BK143) hb
    have n1 := bb (bk BK144) hb
    have n2 := bs hb
    clear BK143 BK144 HB
    have BK143 := n0
    have BK144 := n1
    have HB := n2
    clear n0 n1 n2
    (try clear hb)
    (try clear hb2)
    (try clear hk)
    (try clear hi)
    refine hK.out _ _ ⟨(blk_cell BK143.out 0).trans rfl, (blk_cell BK143.out 1).trans rfl, (blk_cell BK143.out 2).trans rfl, (blk_cell BK143.out 3).trans rfl, (blk_cell BK143.out 4).trans rfl, (blk_cell BK143.out 5).trans rfl, (blk_cell BK144.out 0).trans rfl, (blk_cell BK144.out 1).trans rfl, (blk_cell BK144.out 2).trans rfl, (blk_cell BK144.out 3).trans rfl, (blk_cell BK144.out 4).trans rfl, (blk_cell BK144.out 5).trans rfl⟩ (fun hHeld => ?_)
    clear hK K
    refine nm 19 ?_
    refine oe 3 21 (bl 10 15) (fun K hK => ?_)
    refine gs Try.func16 #[.agg #[.int .i64 a1_0, .int .i64 a1_1, .int .i64 a1_2, .int .i64 a1_3, .int .i64 a1_4, .int .i64 a1_5]] ?_
    with_reducible refine (laws_toProbeBox.calls a1_0 a1_1 a1_2 a1_3 a1_4 a1_5 t165 t166 t167 t168 t169 t170 _ A7.out).mono ?_
    rintro e w39 ⟨rfl, hb⟩
    refine ⟨_, rfl, ?_⟩
    have n0 := bb (bk BK143) hb
    have n1 := bb (bk BK144) hb
    have n2 := bs hb
    clear BK143 BK144 HB
    have BK143 := n0
    have BK144 := n1
    have HB := n2
    clear n0 n1 n2
    (try clear hb)
    (try clear hb2)
    (try clear hk)
    (try clear hi)
    refine hK.out _ _ ⟨(blk_cell BK143.out 0).trans rfl, (blk_cell BK143.out 1).trans rfl, (blk_cell BK143.out 2).trans rfl, (blk_cell BK143.out 3).trans rfl, (blk_cell BK143.out 4).trans rfl, (blk_cell BK143.out 5).trans rfl, (blk_cell BK144.out 0).trans rfl, (blk_cell BK144.out 1).trans rfl, (blk_cell BK144.out 2).trans rfl, (blk_cell BK144.out 3).trans rfl, (blk_cell BK144.out 4).trans rfl, (blk_cell BK144.out 5).trans rfl⟩ (fun hHeld => ?_)
    clear hK K
    refine nm 21 ?_
    refine oe 4 22 (bl 10 31) (fun K hK => ?_)
    refine gs Try.func19 #[.agg #[.int .i64 t159, .int .i64 t160, .int .i64 t161, .int .i64 t162, .int .i64 t163, .int .i64 t164], .agg #[.int .i64 t165, .int .i64 t166, .int .i64 t167, .int .i64 t168, .int .i64 t169, .int .i64 t170]] ?_
    with_reducible refine (impl_ProbeClose.calls k t159 t160 t161 t162 t163 t164 t165 t166 t167 t168 t169 t170 t171 t172 _ A8.out).mono ?_
    rintro e w40 ⟨rfl, hb⟩
    refine ⟨_, rfl, ?_⟩
    have n0 := bb (bk BK143) hb
    have n1 := bb (bk BK144) hb
    have n2 := bs hb
    clear BK143 BK144 HB
    have BK143 := n0
    have BK144 := n1
    have HB := n2
    clear n0 n1 n2
    (try clear hb)
    (try clear hb2)
    (try clear hk)
    (try clear hi)
    refine hK.out _ _ ⟨(blk_cell BK143.out 0).trans rfl, (blk_cell BK143.out 1).trans rfl, (blk_cell BK143.out 2).trans rfl, (blk_cell BK143.out 3).trans rfl, (blk_cell BK143.out 4).trans rfl, (blk_cell BK143.out 5).trans rfl, (blk_cell BK144.out 0).trans rfl, (blk_cell BK144.out 1).trans rfl, (blk_cell BK144.out 2).trans rfl, (blk_cell BK144.out 3).trans rfl, (blk_cell BK144.out 4).trans rfl, (blk_cell BK144.out 5).trans rfl⟩ (fun hHeld => ?_)
    clear hK K
    refine nm 22 ?_
    refine pu 5 17 (bl 10 63) ?_
    refine pu 6 23 (bl 10 127) ?_
    refine pu 7 24 (bl 10 255) ?_
    refine pu 8 7 (bl 10 511) ?_
    refine pu 9 8 (bl 10 1023) ?_
    refine done_ (done_of HT_.out (by kernel_rfl)) ?_
    try go_wp2
    go_ret
    exact ⟨re, bq⟩
end Go.Proofs.Ytfoapgcnjnogiaa.PA
