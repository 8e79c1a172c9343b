/- Contracts of the functions spec_l4With, impl_ProbeWith. (Began as a print of the kit's tool.) -/
import Derived.Test.YtfoapgcnjnogiaaPAd
import Derived.Test.YtfoapgcnjnogiaaCx
import Derived.Test.YtfoapgcnjnogiaaCy
import Derived.Test.YtfoapgcnjnogiaaGMeet
import Derived.Test.YtfoapgcnjnogiaaGSky
import Derived.Test.YtfoapgcnjnogiaaGBase
namespace Go.Proofs.Ytfoapgcnjnogiaa.PA
open Go.RowKit Go.Proofs.YtfoapgcnjnogiaaW.PrintWords Go.Proofs.YtfoapgcnjnogiaaW.PrintLast Go.Proofs.YtfoapgcnjnogiaaW.PrintMore Go.Proofs.Ytfoapgcnjnogiaa.Z
attribute [local go_sem] max2_int min2_int max_two min_two max_three min_three max_four min_four
set_option linter.unusedVariables false
set_option linter.unusedSimpArgs false
def spec_l4With.T5 : Bool × List (List Nat × List Nat) := (true, [([], []), ([], []), ([], []), ([1, 2], [1, 2]), ([3], [3]), ([0, 4], [0, 4]), ([5], [5]), ([6], [6]), ([6], [6]), ([], []), ([9, 7, 5, 0, 1, 2, 3, 4, 5, 6, 7, 9], [7, 9]), ([8, 10, 0, 1, 2, 3, 4, 5, 6, 7, 8, 9, 10], [8])])
def spec_l4With.B5 : List Nat := [0, 0, 0, 6, 14, 31, 63, 127, 127, 0, 767, 2047]
theorem spec_l4With.tab5 : rtab .any (opsOf Try.f61 5) = spec_l4With.T5 := by kernel_rfl
theorem spec_l4With.bits5 : waitsOk spec_l4With.T5.2 spec_l4With.B5 = true := by kernel_rfl
def spec_l4With.T6 : Bool × List (List Nat × List Nat) := (true, [([], []), ([0], [0]), ([1], [1]), ([1], [1]), ([2, 3, 1], [1, 2, 3]), ([4, 1], [1, 4]), ([5, 1], [1, 5]), ([1], [1]), ([7, 1], [1, 7]), ([6, 8, 1], [1, 6, 8]), ([1, 9], [1, 9])])
def spec_l4With.B6 : List Nat := [0, 1, 3, 3, 15, 31, 63, 3, 131, 511, 1023]
theorem spec_l4With.tab6 : rtab .any (opsOf Try.f61 6) = spec_l4With.T6 := by kernel_rfl
theorem spec_l4With.bits6 : waitsOk spec_l4With.T6.2 spec_l4With.B6 = true := by kernel_rfl
set_option maxHeartbeats 8000000 in
set_option maxRecDepth 100000 in
theorem spec_l4With.calls (k : Nat) (A0 : Option Addr) (c0 : Nat) (l0 : List (S39)) (a1_0 : ByteArray) (A1_1 : Option Addr) (c1_1 : Nat) (l1_1 : List (S26)) (r : List (S52)) (w : World) (hr0 : Kd.C k39 w A0 l0.length l0) (hc0 : l0.length ≤ c0) (hr1_1 : Kd.C k26 w A1_1 l1_1.length l1_1) (hc1_1 : l1_1.length ≤ c1_1) (h : spec_l4With.f k l0 a1_0 l1_1 = some r) :
    Calls Try.prog 61 #[.slice A0 l0.length c0, .agg #[.string a1_0, .slice A1_1 l1_1.length c1_1]] w fun e w' => ∃ v0_ : Value, e = .returned (v0_) ∧ Kd.R k52 52 w' w.heap.size (fun _ => True) v0_ r ∧ Below w.heap.size w w' := by
  have hu39 := Try.underlying39
  have hu52 := Try.underlying52
  have HR0 := Aside0.mk hr0
  have HC0 := Aside0.mk hc0
  clear hr0 hc0
  have HR1_1 := Aside0.mk hr1_1
  have HC1_1 := Aside0.mk hc1_1
  clear hr1_1 hc1_1
  have HB := ra (Below.refl w.heap.size w)
  have H : (spec_l4With.l0 k l0 (([] : List (S52))) 0 a1_0 l1_1) = some r := h
  clear h
  obtain ⟨y480, hy_⟩ : ∃ y_ : List (S52), y_ = (([] : List (S52))) := ⟨_, rfl⟩
  replace H : (spec_l4With.l0 k l0 y480 0 a1_0 l1_1) = some r := yh
  have Ny480 := ra hy_
  clear hy_
  have H' := Aside0.mk H
  clear H
  go_enter Try.func61, Try.ntmps61
  go_wp2_with (first | ((with_reducible refine gate_dst (N := 3) rfl ?_); refine be 3 #[.string a1_0, .slice A1_1 l1_1.length c1_1] 39 ?_; intro gb479 hg w3 hbox hb; have n0 := bs hb; have n1 := ra (hbox); have n2 := bz (w0 := w) hg; have n3 := bz (w0 := w) hg; clear HB; have HB := n0; have BK479 := n1; have GW479 := n2; have GE479 := n3; clear n0 n1 n2 n3; clear hb hbox hg) | ((with_reducible refine gate_dst (N := 9) rfl ?_); refine Kd.R_lit k52 _ 52 ?hg (N := 9) ?hd (xs := ([] : List (S52))) (inner := []) (ok := fun _ => True) (okp := fun _ => True) ?hr ?hp (fun _ hk => hk) trivial (Below.refl _ _) (Nat.le_refl _) (by simp) ?_; (case hd => rfl); (case hg => rfl); (case hr => first | (go_simp; done) | (go_simp; rfl)); (case hp => exact (Reps.none _ _)); intro v481 w4 ho5 hb hg_ hnew_; clear hg_ hnew_; (first | rw [← Ny480.out] at ho5 | (simp only [Int.reduceToNat] at ho5; rw [← Ny480.out] at ho5)); have n0 := ra (Kd.R_lower ho5 (below_size bq)); have n1 := bb (bk BK479) hb; have n2 := bs hb; clear BK479 HB; have HO482 := n0; have BK479 := n1; have HB := n2; clear n0 n1 n2; clear hb ho5))
  go_loopg [5, 6] k (fun kq v5 v6 w' => ∃ (x5_1 : List (S52)) (x6_1 : Int), v6 = .int .i64 x6_1 ∧ Aside0 (spec_l4With.l0 kq l0 x5_1 x6_1 a1_0 l1_1 = some r) ∧ Aside0 (kq ≤ k) ∧ Aside0 (Kd.R k52 52 w' w.heap.size (fun _ => True) v5 x5_1) ∧ Aside0 (w'.heap[gb479]? = some (.cells #[.string a1_0, (.slice A1_1 l1_1.length c1_1)] 39 (0, 0))) ∧ Aside0 (Below w.heap.size w w'))
  case atStart => exact ⟨(y480), (0), rs, H', ⟨Nat.le_refl _⟩, ⟨rq HO482⟩, ⟨bk BK479⟩, ⟨bq⟩⟩
  case round =>
    clear H'
    obtain ⟨x5_1, x6_1, rfl, HA, HK1, HO_5, BK479, HB⟩ := hrel
    cases gk with
    | zero => exact absurd HA.out (by simp [spec_l4With.l0])
    | succ k1 =>
      have H := HA.out
      clear HA
      simp only [spec_l4With.l0] at H
      by_cases c6 : x6_1 < (l0.length : Int)
      · rw [if_pos c6] at H
        have c6b0 : decide (x6_1 < (l0.length : Int)) = true := decide_eq_true c6
        clear c6
        by_cases c7 : 0 ≤ x6_1
        · rw [if_pos c7] at H
          have c7b0 : decide (0 ≤ x6_1) = true := decide_eq_true c7
          clear c7
          obtain ⟨⟨t484, t485, t486, t487, t488, t489⟩, A8, H⟩ := bo H
          try dsimp only at H
          by_cases c9 : t489 = true
          · subst c9
            replace H := it H rfl
            by_cases c10 : ((rd_T39 l0 x6_1).f0).toList = a1_0.toList
            · rw [if_pos c10] at H
              have c10b0 : (((rd_T39 l0 x6_1).f0).toList == a1_0.toList) = true := beq_iff_eq.mpr c10
              have c10b1 : (((rd_T39 l0 x6_1).f0).toList != a1_0.toList) = false := bne_eq_false_iff_eq.mpr c10
              clear c10
              have H' := Aside0.mk H
              clear H
              try go_wp2
              have n0 := ra (Kd.R_drew HO_5.out)
              have n1 := ra (blk_drew BK479.out)
              have n2 := ra (below_drew1 HB.out)
              clear HO_5 BK479 HB
              have HO_5 := n0
              have BK479 := n1
              have HB := n2
              clear n0 n1 n2
              have p483 : 0 ≤ (x6_1 : Int) := od
              have q483 : x6_1 < (l0.length : Int) := od
              obtain ⟨ad483, A483_1, c483_1, e483, hx483_0, hx483_1, hl483_1, hi483_1⟩ := at_T39 HR0.out x6_1 p483 q483
              have hw483_1 := hx483_1
              have hw483_0 := hx483_0
              cases e483
              replace hx483_0 := hc HB hx483_0
              replace hx483_1 := hc HB hx483_1
              have HR483_1 := Aside0.mk hi483_1
              have HC483_1 := Aside0.mk hl483_1
              clear hi483_1 hl483_1
              replace p483 := eq_true p483
              replace q483 := eq_true q483
              refine start_ (n := 12) (S := fun w' => w'.cell? ⟨gb479, 0, none⟩ = some (.string a1_0) ∧ w'.cell? ⟨gb479, 1, none⟩ = some (.slice A1_1 l1_1.length c1_1) ∧ w'.cell? (ad483.add ((x6_1).toNat * 2)) = some (.string ((rd_T39 l0 x6_1).f0)) ∧ w'.cell? ⟨(ad483.add ((x6_1).toNat * 2)).block, (ad483.add ((x6_1).toNat * 2)).off + 1, none⟩ = some (.slice A483_1 ((rd_T39 l0 x6_1).f1).length c483_1)) (ds := []) (bl 12 0) (by kernel_rfl) rfl rfl ⟨(blk_cell BK479.out 0).trans rfl, (blk_cell BK479.out 1).trans rfl, (hc HB hw483_0), (hc HB hw483_1)⟩ (fun hHeld => ?_); refine with_tabW spec_l4With.tab5 spec_l4With.bits5 (fun HT_ HW_ => ?_)
              generalize wr.drew = w11 at HO_5 BK479 HB HR483_1 hx483_0 hx483_1 hHeld ⊢
              refine pu 1 18 (bl 12 2) ?_
              refine pu 2 19 (bl 12 6) ?_
              refine pu 3 20 (bl 12 14) ?_
              refine tk 0 17 (bl 12 15) ?_ hHeld
              refine tk 4 21 (bl 12 31) ?_ hHeld
              refine join_ (σ := Nat) 2 #[true, true, true, true, true, true, true, true, true, true, false, false] (fun s_ => [(22, .tuple #[.agg #[.string t484, .string t485, .int .i64 t486, .int .i64 t487, .int .i64 t488], .bool true]), (7, .pointer (some ⟨s_, 0, none⟩)), (16, .tuple #[.agg #[.string t484, .string t485, .int .i64 t486, .int .i64 t487, .int .i64 t488], .bool true]), (23, .agg #[.string t484, .string t485, .int .i64 t486, .int .i64 t487, .int .i64 t488]), (24, .bool true)]) (fun s_ w' => (w'.cell? ⟨gb479, 0, none⟩ = some (.string a1_0) ∧ w'.cell? ⟨gb479, 1, none⟩ = some (.slice A1_1 l1_1.length c1_1) ∧ w'.cell? (ad483.add ((x6_1).toNat * 2)) = some (.string ((rd_T39 l0 x6_1).f0)) ∧ w'.cell? ⟨(ad483.add ((x6_1).toNat * 2)).block, (ad483.add ((x6_1).toNat * 2)).off + 1, none⟩ = some (.slice A483_1 ((rd_T39 l0 x6_1).f1).length c483_1)) ∧ (Kd.R k52 52 w' w.heap.size (fun k_ => k_ ≠ s_) u5 x5_1) ∧ (w'.heap[gb479]? = some (.cells #[.string a1_0, .slice A1_1 l1_1.length c1_1] 39 (0, 0))) ∧ (w'.heap[s_]? = some (.cells #[.string (⟨#[]⟩ : ByteArray), .string (⟨#[]⟩ : ByteArray), .int .i64 0, .int .i64 0, .int .i64 0] 52 (0, 0))) ∧ (w.heap.size ≤ s_) ∧ (w.heap.size ≤ s_) ∧ (gb479 ≠ s_) ∧ (s_ ≠ gb479) ∧ (Below w.heap.size w w')) ?_ ?_
              rotate_left
              · intro hCont
                refine two_ (i := 5) (j := 9) (Ni := some 22) (Nj := some 7) #[true, true, true, true, true, true, false, false, false, false, false, false] #[true, true, true, true, true, false, false, false, false, true, false, false] rfl rfl rfl rfl (two_of HT_.out (by kernel_rfl)) (by decide) (by decide) (fun K hK => ?_) (fun K hK => ?_)
                · skip
                  refine gs Try.func58 #[.agg #[.string a1_0, .slice A1_1 l1_1.length c1_1], .agg #[.string ((rd_T39 l0 x6_1).f0), .slice A483_1 ((rd_T39 l0 x6_1).f1).length c483_1]] ?_
                  with_reducible refine (spec_l3Meet.calls k1 a1_0 _ _ l1_1 ((rd_T39 l0 x6_1).f0) _ _ ((rd_T39 l0 x6_1).f1) t484 t485 t486 t487 t488 true _ ?side1 ?side2 ?side3 ?side4 A8.out).mono ?_
                  (case side1 => exact sc HR1_1)
                  (case side2 => exact HC1_1.out)
                  (case side3 => exact sc HR483_1)
                  (case side4 => exact HC483_1.out)
                  rintro e w12 ⟨rfl, hb⟩
                  refine ⟨_, rfl, ?_⟩
                  have n0 := ra (Kd.R_below (rq HO_5) hb)
                  have n1 := bb (bk BK479) hb
                  have n2 := bs hb
                  clear HO_5 BK479 HB
                  have HO_5 := n0
                  have BK479 := n1
                  have HB := n2
                  clear n0 n1 n2
                  (try clear hb)
                  (try clear hb2)
                  (try clear hk)
                  (try clear hi)
                  refine hK.out _ _ ⟨(blk_cell BK479.out 0).trans rfl, (blk_cell BK479.out 1).trans rfl, (hc HB hw483_0), (hc HB hw483_1)⟩ (fun hHeld => ?_)
                  clear hK K
                  refine nm 22 ?_
                  refine pu 6 16 (bl 12 127) ?_
                  refine pu 7 23 (bl 12 255) ?_
                  refine pu 8 24 (bl 12 511) ?_
                  refine oe 9 7 (bl 12 1023) (fun K hK => ?_)
                  refine box_step ?hg (N := 7) ?hd (cs := #[.string (⟨#[]⟩ : ByteArray), .string (⟨#[]⟩ : ByteArray), .int .i64 0, .int .i64 0, .int .i64 0]) (t := 52) ?hr ?_; (case hd => rfl); (case hg => rfl); (case hr => first | (go_simp; done) | (go_simp; rfl))
                  intro gb490 hg w13 hbox hb
                  have n0 := ra (Kd.R_below (Kd.R_elderB (rq HO_5) gb490 (Nat.le_of_eq hg.symm)) hb)
                  have n1 := bb (bk BK479) hb
                  have n2 := bs hb
                  have n3 := ra (hbox)
                  have n4 := bz (w0 := w) hg
                  have n5 := bz (w0 := w) hg
                  have n6 := bn hg (bk BK479)
                  have n7 := bm hg (bk BK479)
                  clear HO_5 BK479 HB
                  have HO_5 := n0
                  have BK479 := n1
                  have HB := n2
                  have BK490 := n3
                  have GW490 := n4
                  have GE490 := n5
                  have NB479_490 := n6
                  have NB490_479 := n7
                  clear n0 n1 n2 n3 n4 n5 n6 n7
                  clear hb hbox hg
                  refine hK.out _ _ ⟨(blk_cell BK479.out 0).trans rfl, (blk_cell BK479.out 1).trans rfl, (hc HB hw483_0), (hc HB hw483_1)⟩ (fun hHeld => ?_)
                  clear hK K
                  refine nm 7 ?_
                  exact norm_ (by simp only [putAll, Act.put, List.setIfInBounds_toArray, List.set_cons_zero, List.set_cons_succ]) (hCont (gb490) _ ⟨hHeld, (by (with_reducible repeat (first | apply Kd.R_alloc | apply Kd.R_drewN | apply Kd.R_drew)); exact Kd.R_mono HO_5.out (fun _ hk => hk.2)), (bk BK479), (bk BK490), GW490.out, GE490.out, NB479_490.out, NB490_479.out, bq⟩)
                · skip
                  refine box_step ?hg (N := 7) ?hd (cs := #[.string (⟨#[]⟩ : ByteArray), .string (⟨#[]⟩ : ByteArray), .int .i64 0, .int .i64 0, .int .i64 0]) (t := 52) ?hr ?_; (case hd => rfl); (case hg => rfl); (case hr => first | (go_simp; done) | (go_simp; rfl))
                  intro gb490 hg w12 hbox hb
                  have n0 := ra (Kd.R_below (Kd.R_elderB (rq HO_5) gb490 (Nat.le_of_eq hg.symm)) hb)
                  have n1 := bb (bk BK479) hb
                  have n2 := bs hb
                  have n3 := ra (hbox)
                  have n4 := bz (w0 := w) hg
                  have n5 := bz (w0 := w) hg
                  have n6 := bn hg (bk BK479)
                  have n7 := bm hg (bk BK479)
                  clear HO_5 BK479 HB
                  have HO_5 := n0
                  have BK479 := n1
                  have HB := n2
                  have BK490 := n3
                  have GW490 := n4
                  have GE490 := n5
                  have NB479_490 := n6
                  have NB490_479 := n7
                  clear n0 n1 n2 n3 n4 n5 n6 n7
                  clear hb hbox hg
                  refine hK.out _ _ ⟨(blk_cell BK479.out 0).trans rfl, (blk_cell BK479.out 1).trans rfl, (hc HB hw483_0), (hc HB hw483_1)⟩ (fun hHeld => ?_)
                  clear hK K
                  refine nm 7 ?_
                  refine oe 5 22 (bl 12 575) (fun K hK => ?_)
                  refine gs Try.func58 #[.agg #[.string a1_0, .slice A1_1 l1_1.length c1_1], .agg #[.string ((rd_T39 l0 x6_1).f0), .slice A483_1 ((rd_T39 l0 x6_1).f1).length c483_1]] ?_
                  with_reducible refine (spec_l3Meet.calls k1 a1_0 _ _ l1_1 ((rd_T39 l0 x6_1).f0) _ _ ((rd_T39 l0 x6_1).f1) t484 t485 t486 t487 t488 true _ ?side1 ?side2 ?side3 ?side4 A8.out).mono ?_
                  (case side1 => exact sc HR1_1)
                  (case side2 => exact HC1_1.out)
                  (case side3 => exact sc HR483_1)
                  (case side4 => exact HC483_1.out)
                  rintro e w13 ⟨rfl, hb⟩
                  refine ⟨_, rfl, ?_⟩
                  have n0 := ra (Kd.R_below (rq HO_5) hb)
                  have n1 := bb (bk BK479) hb
                  have n2 := bb (bk BK490) hb
                  have n3 := bs hb
                  clear HO_5 BK479 BK490 HB
                  have HO_5 := n0
                  have BK479 := n1
                  have BK490 := n2
                  have HB := n3
                  clear n0 n1 n2 n3
                  (try clear hb)
                  (try clear hb2)
                  (try clear hk)
                  (try clear hi)
                  refine hK.out _ _ ⟨(blk_cell BK479.out 0).trans rfl, (blk_cell BK479.out 1).trans rfl, (hc HB hw483_0), (hc HB hw483_1)⟩ (fun hHeld => ?_)
                  clear hK K
                  refine nm 22 ?_
                  refine pu 6 16 (bl 12 639) ?_
                  refine pu 7 23 (bl 12 767) ?_
                  refine pu 8 24 (bl 12 1023) ?_
                  exact norm_ (by simp only [putAll, Act.put, List.setIfInBounds_toArray, List.set_cons_zero, List.set_cons_succ]) (hCont (gb490) _ ⟨hHeld, (by (with_reducible repeat (first | apply Kd.R_alloc | apply Kd.R_drewN | apply Kd.R_drew)); exact Kd.R_mono HO_5.out (fun _ hk => hk.2)), (bk BK479), (bk BK490), GW490.out, GE490.out, NB479_490.out, NB490_479.out, bq⟩)
              rintro gb490 w14 ⟨hS_, h0_, h1_, h2_, h3_, h4_, h5_, h6_, h7_⟩
              have n0 : Aside0 (Kd.R k52 52 w14 w.heap.size (fun k_ => k_ ≠ gb490) u5 x5_1) := ⟨h0_⟩
              have n1 : Aside0 (w14.heap[gb479]? = some (.cells #[.string a1_0, .slice A1_1 l1_1.length c1_1] 39 (0, 0))) := ⟨h1_⟩
              have n2 : Aside0 (w14.heap[gb490]? = some (.cells #[.string (⟨#[]⟩ : ByteArray), .string (⟨#[]⟩ : ByteArray), .int .i64 0, .int .i64 0, .int .i64 0] 52 (0, 0))) := ⟨h2_⟩
              have n3 : Aside0 (w.heap.size ≤ gb490) := ⟨h3_⟩
              have n4 : Aside0 (w.heap.size ≤ gb490) := ⟨h4_⟩
              have n5 : Aside0 (gb479 ≠ gb490) := ⟨h5_⟩
              have n6 : Aside0 (gb490 ≠ gb479) := ⟨h6_⟩
              have n7 : Aside0 (Below w.heap.size w w14) := ⟨h7_⟩
              clear HO_5 BK479 HB
              clear h0_ h1_ h2_ h3_ h4_ h5_ h6_ h7_
              have HO_5 := n0
              have BK479 := n1
              have BK490 := n2
              have GW490 := n3
              have GE490 := n4
              have NB479_490 := n5
              have NB490_479 := n6
              have HB := n7
              clear n0 n1 n2 n3 n4 n5 n6 n7
              have hHeld : w14.cell? ⟨gb479, 0, none⟩ = some (.string a1_0) ∧ w14.cell? ⟨gb479, 1, none⟩ = some (.slice A1_1 l1_1.length c1_1) ∧ w14.cell? (ad483.add ((x6_1).toNat * 2)) = some (.string ((rd_T39 l0 x6_1).f0)) ∧ w14.cell? ⟨(ad483.add ((x6_1).toNat * 2)).block, (ad483.add ((x6_1).toNat * 2)).off + 1, none⟩ = some (.slice A483_1 ((rd_T39 l0 x6_1).f1).length c483_1) := hS_
              refine norm_ (a' := ?_) ?_ ?_
              rotate_left
              · simp only [putAll, Act.put, List.setIfInBounds_toArray, List.set_cons_zero, List.set_cons_succ]
                rfl
              refine one_ (i := 10) (N := none) #[true, true, true, true, true, true, true, true, true, true, true, false] rfl rfl (one_of HT_.out (by kernel_rfl)) (by decide) (fun K hK => ?_)
              have hs15 : w14.cell? ⟨gb490, 0, none⟩ = some (.string (⟨#[]⟩ : ByteArray)) := (blk_cell BK490.out 0).trans rfl
              have hfs15 := blk_frozen BK490.out 0
              have hns15_0 := NB479_490.out
              have hms15_0 := NB490_479.out
              have hs16 : w14.cell? ⟨gb490, 1, none⟩ = some (.string (⟨#[]⟩ : ByteArray)) := (blk_cell BK490.out 1).trans rfl
              have hfs16 := blk_frozen BK490.out 1
              have hns16_0 := NB479_490.out
              have hms16_0 := NB490_479.out
              have hs17 : w14.cell? ⟨gb490, 2, none⟩ = some (.int .i64 0) := (blk_cell BK490.out 2).trans rfl
              have hfs17 := blk_frozen BK490.out 2
              have hns17_0 := NB479_490.out
              have hms17_0 := NB490_479.out
              have hs18 : w14.cell? ⟨gb490, 3, none⟩ = some (.int .i64 0) := (blk_cell BK490.out 3).trans rfl
              have hfs18 := blk_frozen BK490.out 3
              have hns18_0 := NB479_490.out
              have hms18_0 := NB490_479.out
              have hs19 : w14.cell? ⟨gb490, 4, none⟩ = some (.int .i64 0) := (blk_cell BK490.out 4).trans rfl
              have hfs19 := blk_frozen BK490.out 4
              have hns19_0 := NB479_490.out
              have hms19_0 := NB490_479.out
              refine skip_ (w1 := ?_) (by rfl) rfl ?_ ?_
              rotate_left
              · go_simp
                rfl
              refine hK.out _ _ ⟨((cell_far (p := ⟨gb490, _, none⟩) NB479_490.out _).trans (((cell_far (p := ⟨gb490, _, none⟩) NB479_490.out _).trans (((cell_far (p := ⟨gb490, _, none⟩) NB479_490.out _).trans (((cell_far (p := ⟨gb490, _, none⟩) NB479_490.out _).trans (((cell_far (p := ⟨gb490, _, none⟩) NB479_490.out _).trans (hHeld.1)))))))))), ((cell_far (p := ⟨gb490, _, none⟩) NB479_490.out _).trans (((cell_far (p := ⟨gb490, _, none⟩) NB479_490.out _).trans (((cell_far (p := ⟨gb490, _, none⟩) NB479_490.out _).trans (((cell_far (p := ⟨gb490, _, none⟩) NB479_490.out _).trans (((cell_far (p := ⟨gb490, _, none⟩) NB479_490.out _).trans (hHeld.2.1)))))))))), ((cell_far (p := ⟨gb490, _, none⟩) (by first | exact Nat.ne_of_lt (Nat.lt_of_lt_of_le (by have := World.block_lt_of_cell? _ _ hw483_0; first | rwa [add_block] at this | exact this) GW490.out) | (rw [add_block]; exact Nat.ne_of_lt (Nat.lt_of_lt_of_le (by have := World.block_lt_of_cell? _ _ hw483_0; first | rwa [add_block] at this | exact this) GW490.out)) | (show (Addr.add _ _).block ≠ _; rw [add_block]; exact Nat.ne_of_lt (Nat.lt_of_lt_of_le (by have := World.block_lt_of_cell? _ _ hw483_0; first | rwa [add_block] at this | exact this) GW490.out)) | (dsimp only; exact Nat.ne_of_lt (Nat.lt_of_lt_of_le (by have := World.block_lt_of_cell? _ _ hw483_0; first | rwa [add_block] at this | exact this) GW490.out))) _).trans (((cell_far (p := ⟨gb490, _, none⟩) (by first | exact Nat.ne_of_lt (Nat.lt_of_lt_of_le (by have := World.block_lt_of_cell? _ _ hw483_0; first | rwa [add_block] at this | exact this) GW490.out) | (rw [add_block]; exact Nat.ne_of_lt (Nat.lt_of_lt_of_le (by have := World.block_lt_of_cell? _ _ hw483_0; first | rwa [add_block] at this | exact this) GW490.out)) | (show (Addr.add _ _).block ≠ _; rw [add_block]; exact Nat.ne_of_lt (Nat.lt_of_lt_of_le (by have := World.block_lt_of_cell? _ _ hw483_0; first | rwa [add_block] at this | exact this) GW490.out)) | (dsimp only; exact Nat.ne_of_lt (Nat.lt_of_lt_of_le (by have := World.block_lt_of_cell? _ _ hw483_0; first | rwa [add_block] at this | exact this) GW490.out))) _).trans (((cell_far (p := ⟨gb490, _, none⟩) (by first | exact Nat.ne_of_lt (Nat.lt_of_lt_of_le (by have := World.block_lt_of_cell? _ _ hw483_0; first | rwa [add_block] at this | exact this) GW490.out) | (rw [add_block]; exact Nat.ne_of_lt (Nat.lt_of_lt_of_le (by have := World.block_lt_of_cell? _ _ hw483_0; first | rwa [add_block] at this | exact this) GW490.out)) | (show (Addr.add _ _).block ≠ _; rw [add_block]; exact Nat.ne_of_lt (Nat.lt_of_lt_of_le (by have := World.block_lt_of_cell? _ _ hw483_0; first | rwa [add_block] at this | exact this) GW490.out)) | (dsimp only; exact Nat.ne_of_lt (Nat.lt_of_lt_of_le (by have := World.block_lt_of_cell? _ _ hw483_0; first | rwa [add_block] at this | exact this) GW490.out))) _).trans (((cell_far (p := ⟨gb490, _, none⟩) (by first | exact Nat.ne_of_lt (Nat.lt_of_lt_of_le (by have := World.block_lt_of_cell? _ _ hw483_0; first | rwa [add_block] at this | exact this) GW490.out) | (rw [add_block]; exact Nat.ne_of_lt (Nat.lt_of_lt_of_le (by have := World.block_lt_of_cell? _ _ hw483_0; first | rwa [add_block] at this | exact this) GW490.out)) | (show (Addr.add _ _).block ≠ _; rw [add_block]; exact Nat.ne_of_lt (Nat.lt_of_lt_of_le (by have := World.block_lt_of_cell? _ _ hw483_0; first | rwa [add_block] at this | exact this) GW490.out)) | (dsimp only; exact Nat.ne_of_lt (Nat.lt_of_lt_of_le (by have := World.block_lt_of_cell? _ _ hw483_0; first | rwa [add_block] at this | exact this) GW490.out))) _).trans (((cell_far (p := ⟨gb490, _, none⟩) (by first | exact Nat.ne_of_lt (Nat.lt_of_lt_of_le (by have := World.block_lt_of_cell? _ _ hw483_0; first | rwa [add_block] at this | exact this) GW490.out) | (rw [add_block]; exact Nat.ne_of_lt (Nat.lt_of_lt_of_le (by have := World.block_lt_of_cell? _ _ hw483_0; first | rwa [add_block] at this | exact this) GW490.out)) | (show (Addr.add _ _).block ≠ _; rw [add_block]; exact Nat.ne_of_lt (Nat.lt_of_lt_of_le (by have := World.block_lt_of_cell? _ _ hw483_0; first | rwa [add_block] at this | exact this) GW490.out)) | (dsimp only; exact Nat.ne_of_lt (Nat.lt_of_lt_of_le (by have := World.block_lt_of_cell? _ _ hw483_0; first | rwa [add_block] at this | exact this) GW490.out))) _).trans (hHeld.2.2.1)))))))))), ((cell_far (p := ⟨gb490, _, none⟩) (by first | exact Nat.ne_of_lt (Nat.lt_of_lt_of_le (by have := World.block_lt_of_cell? _ _ hw483_1; first | rwa [add_block] at this | exact this) GW490.out) | (rw [add_block]; exact Nat.ne_of_lt (Nat.lt_of_lt_of_le (by have := World.block_lt_of_cell? _ _ hw483_1; first | rwa [add_block] at this | exact this) GW490.out)) | (show (Addr.add _ _).block ≠ _; rw [add_block]; exact Nat.ne_of_lt (Nat.lt_of_lt_of_le (by have := World.block_lt_of_cell? _ _ hw483_1; first | rwa [add_block] at this | exact this) GW490.out)) | (dsimp only; exact Nat.ne_of_lt (Nat.lt_of_lt_of_le (by have := World.block_lt_of_cell? _ _ hw483_1; first | rwa [add_block] at this | exact this) GW490.out))) _).trans (((cell_far (p := ⟨gb490, _, none⟩) (by first | exact Nat.ne_of_lt (Nat.lt_of_lt_of_le (by have := World.block_lt_of_cell? _ _ hw483_1; first | rwa [add_block] at this | exact this) GW490.out) | (rw [add_block]; exact Nat.ne_of_lt (Nat.lt_of_lt_of_le (by have := World.block_lt_of_cell? _ _ hw483_1; first | rwa [add_block] at this | exact this) GW490.out)) | (show (Addr.add _ _).block ≠ _; rw [add_block]; exact Nat.ne_of_lt (Nat.lt_of_lt_of_le (by have := World.block_lt_of_cell? _ _ hw483_1; first | rwa [add_block] at this | exact this) GW490.out)) | (dsimp only; exact Nat.ne_of_lt (Nat.lt_of_lt_of_le (by have := World.block_lt_of_cell? _ _ hw483_1; first | rwa [add_block] at this | exact this) GW490.out))) _).trans (((cell_far (p := ⟨gb490, _, none⟩) (by first | exact Nat.ne_of_lt (Nat.lt_of_lt_of_le (by have := World.block_lt_of_cell? _ _ hw483_1; first | rwa [add_block] at this | exact this) GW490.out) | (rw [add_block]; exact Nat.ne_of_lt (Nat.lt_of_lt_of_le (by have := World.block_lt_of_cell? _ _ hw483_1; first | rwa [add_block] at this | exact this) GW490.out)) | (show (Addr.add _ _).block ≠ _; rw [add_block]; exact Nat.ne_of_lt (Nat.lt_of_lt_of_le (by have := World.block_lt_of_cell? _ _ hw483_1; first | rwa [add_block] at this | exact this) GW490.out)) | (dsimp only; exact Nat.ne_of_lt (Nat.lt_of_lt_of_le (by have := World.block_lt_of_cell? _ _ hw483_1; first | rwa [add_block] at this | exact this) GW490.out))) _).trans (((cell_far (p := ⟨gb490, _, none⟩) (by first | exact Nat.ne_of_lt (Nat.lt_of_lt_of_le (by have := World.block_lt_of_cell? _ _ hw483_1; first | rwa [add_block] at this | exact this) GW490.out) | (rw [add_block]; exact Nat.ne_of_lt (Nat.lt_of_lt_of_le (by have := World.block_lt_of_cell? _ _ hw483_1; first | rwa [add_block] at this | exact this) GW490.out)) | (show (Addr.add _ _).block ≠ _; rw [add_block]; exact Nat.ne_of_lt (Nat.lt_of_lt_of_le (by have := World.block_lt_of_cell? _ _ hw483_1; first | rwa [add_block] at this | exact this) GW490.out)) | (dsimp only; exact Nat.ne_of_lt (Nat.lt_of_lt_of_le (by have := World.block_lt_of_cell? _ _ hw483_1; first | rwa [add_block] at this | exact this) GW490.out))) _).trans (((cell_far (p := ⟨gb490, _, none⟩) (by first | exact Nat.ne_of_lt (Nat.lt_of_lt_of_le (by have := World.block_lt_of_cell? _ _ hw483_1; first | rwa [add_block] at this | exact this) GW490.out) | (rw [add_block]; exact Nat.ne_of_lt (Nat.lt_of_lt_of_le (by have := World.block_lt_of_cell? _ _ hw483_1; first | rwa [add_block] at this | exact this) GW490.out)) | (show (Addr.add _ _).block ≠ _; rw [add_block]; exact Nat.ne_of_lt (Nat.lt_of_lt_of_le (by have := World.block_lt_of_cell? _ _ hw483_1; first | rwa [add_block] at this | exact this) GW490.out)) | (dsimp only; exact Nat.ne_of_lt (Nat.lt_of_lt_of_le (by have := World.block_lt_of_cell? _ _ hw483_1; first | rwa [add_block] at this | exact this) GW490.out))) _).trans (hHeld.2.2.2))))))))))⟩ (fun hHeld => ?_)
              clear hK K
              refine pu 11 8 (bl 12 4095) ?_
              refine done_ (done_of HT_.out (by kernel_rfl)) ?_
              try go_wp2
              have n0 : Aside0 (Kd.R k52 52 (((((w14.setCell ⟨gb490, 0, none⟩ (.string t484)).setCell ⟨gb490, 1, none⟩ (.string t485)).setCell ⟨gb490, 2, none⟩ (.int .i64 t486)).setCell ⟨gb490, 3, none⟩ (.int .i64 t487)).setCell ⟨gb490, 4, none⟩ (.int .i64 t488)) w.heap.size (fun k_ => k_ ≠ gb490) u5 x5_1) := ⟨by (with_reducible repeat (first | apply Kd.R_alloc | apply Kd.R_drewN | apply Kd.R_drew)); exact Kd.R_mono (rf (Kd.R_mono HO_5.out (fun k_ hk => (⟨hk, hk⟩ : _ ∧ k_ ≠ gb490)))) (fun _ hk => hk.1)⟩
              have n1 : Aside0 ((((((w14.setCell ⟨gb490, 0, none⟩ (.string t484)).setCell ⟨gb490, 1, none⟩ (.string t485)).setCell ⟨gb490, 2, none⟩ (.int .i64 t486)).setCell ⟨gb490, 3, none⟩ (.int .i64 t487)).setCell ⟨gb490, 4, none⟩ (.int .i64 t488)).heap[gb479]? = some (.cells #[.string a1_0, .slice A1_1 l1_1.length c1_1] 39 (0, 0))) := ⟨bk BK479⟩
              have n2 : Aside0 ((((((w14.setCell ⟨gb490, 0, none⟩ (.string t484)).setCell ⟨gb490, 1, none⟩ (.string t485)).setCell ⟨gb490, 2, none⟩ (.int .i64 t486)).setCell ⟨gb490, 3, none⟩ (.int .i64 t487)).setCell ⟨gb490, 4, none⟩ (.int .i64 t488)).heap[gb490]? = some (.cells #[.string t484, .string t485, .int .i64 t486, .int .i64 t487, .int .i64 t488] 52 (0, 0))) := ⟨bp BK490⟩
              have n3 : Aside0 (Below w.heap.size w (((((w14.setCell ⟨gb490, 0, none⟩ (.string t484)).setCell ⟨gb490, 1, none⟩ (.string t485)).setCell ⟨gb490, 2, none⟩ (.int .i64 t486)).setCell ⟨gb490, 3, none⟩ (.int .i64 t487)).setCell ⟨gb490, 4, none⟩ (.int .i64 t488))) := ⟨bq⟩
              (try clear HO_5)
              (try clear BK479)
              (try clear BK490)
              (try clear HB)
              generalize (((((w14.setCell ⟨gb490, 0, none⟩ (.string t484)).setCell ⟨gb490, 1, none⟩ (.string t485)).setCell ⟨gb490, 2, none⟩ (.int .i64 t486)).setCell ⟨gb490, 3, none⟩ (.int .i64 t487)).setCell ⟨gb490, 4, none⟩ (.int .i64 t488)) = w20 at n0 n1 n2 n3 ⊢
              have HO_5 := n0
              have BK479 := n1
              have BK490 := n2
              have HB := n3
              clear n0 n1 n2 n3
              have n0 := ra (Kd.R_drew HO_5.out)
              have n1 := ra (blk_drew BK479.out)
              have n2 := ra (blk_drew BK490.out)
              have n3 := ra (below_drew1 HB.out)
              clear HO_5 BK479 BK490 HB
              have HO_5 := n0
              have BK479 := n1
              have BK490 := n2
              have HB := n3
              clear n0 n1 n2 n3
              have p491 : 0 ≤ (x6_1 : Int) := od
              have q491 : x6_1 < (l0.length : Int) := od
              obtain ⟨ad491, A491_1, c491_1, e491, hx491_0, hx491_1, hl491_1, hi491_1⟩ := at_T39 HR0.out x6_1 p491 q491
              have hw491_1 := hx491_1
              have hw491_0 := hx491_0
              obtain rfl : ad483 = ad491 := (by injection e491)
              replace hx491_0 := hc HB hx491_0
              replace hx491_1 := hc HB hx491_1
              have HR491_1 := Aside0.mk hi491_1
              have HC491_1 := Aside0.mk hl491_1
              clear hi491_1 hl491_1
              replace p491 := eq_true p491
              replace q491 := eq_true q491
              refine start_ (n := 11) (S := fun w' => w'.cell? ⟨gb479, 0, none⟩ = some (.string a1_0) ∧ w'.cell? ⟨gb479, 1, none⟩ = some (.slice A1_1 l1_1.length c1_1) ∧ w'.cell? (ad483.add ((x6_1).toNat * 2)) = some (.string ((rd_T39 l0 x6_1).f0)) ∧ w'.cell? ⟨(ad483.add ((x6_1).toNat * 2)).block, (ad483.add ((x6_1).toNat * 2)).off + 1, none⟩ = some (.slice A491_1 ((rd_T39 l0 x6_1).f1).length c491_1)) (ds := []) (bl 11 0) (by kernel_rfl) rfl rfl ⟨(blk_cell BK479.out 0).trans rfl, (blk_cell BK479.out 1).trans rfl, (hc HB hw491_0), (hc HB hw491_1)⟩ (fun hHeld => ?_); refine with_tabW spec_l4With.tab6 spec_l4With.bits6 (fun HT_ HW_ => ?_)
              generalize w20.drew = w21 at HO_5 BK479 BK490 HB HR491_1 hx491_0 hx491_1 hHeld ⊢
              refine pu 0 25 (bl 11 1) ?_
              refine pu 1 26 (bl 11 3) ?_
              refine pu 2 27 (bl 11 7) ?_
              refine pu 3 28 (bl 11 15) ?_
              refine pu 4 29 (bl 11 31) ?_
              refine pu 5 30 (bl 11 63) ?_
              refine pu 7 32 (bl 11 191) ?_
              refine tk 6 31 (bl 11 255) ?_ hHeld
              refine tk 8 33 (bl 11 511) ?_ hHeld
              refine pu 9 34 (bl 11 1023) ?_
              refine pu 10 35 (bl 11 2047) ?_
              refine done_ (done_of HT_.out (by kernel_rfl)) ?_
              try go_wp2
              go_roundg k1
              case measure => have := HK1.out; omega
              case rel => exact ⟨(x5_1), (wrap64 (x6_1 + 1)), rs, H', ⟨by have := HK1.out; omega⟩, ⟨by (with_reducible repeat (first | apply Kd.R_alloc | apply Kd.R_drewN | apply Kd.R_drew)); exact Kd.R_mono HO_5.out (fun _ hk => trivial)⟩, ⟨bk BK479⟩, ⟨bq⟩⟩
            · rw [if_neg c10] at H
              have c10b0 : (((rd_T39 l0 x6_1).f0).toList == a1_0.toList) = false := beq_eq_false_iff_ne.mpr c10
              have c10b1 : (((rd_T39 l0 x6_1).f0).toList != a1_0.toList) = true := bne_iff_ne.mpr c10
              by_cases c22 : x5_1.length < 2513169434916
              · rw [if_pos c22] at H
                have LMc22 := Aside0.mk c22
                clear c22
                obtain ⟨y492, hy_⟩ : ∃ y_ : List (S52), y_ = (x5_1 ++ [(⟨t484, t485, t486, t487, t488⟩ : S52)]) := ⟨_, rfl⟩
                replace H : (spec_l4With.l0 k1 l0 y492 (wrap64 (x6_1 + 1)) a1_0 l1_1) = some r := yh
                have Ny492 := ra hy_
                clear hy_
                have H' := Aside0.mk H
                clear H
                try go_wp2
                have n0 := ra (Kd.R_drew HO_5.out)
                have n1 := ra (blk_drew BK479.out)
                have n2 := ra (below_drew1 HB.out)
                clear HO_5 BK479 HB
                have HO_5 := n0
                have BK479 := n1
                have HB := n2
                clear n0 n1 n2
                have p483 : 0 ≤ (x6_1 : Int) := od
                have q483 : x6_1 < (l0.length : Int) := od
                obtain ⟨ad483, A483_1, c483_1, e483, hx483_0, hx483_1, hl483_1, hi483_1⟩ := at_T39 HR0.out x6_1 p483 q483
                have hw483_1 := hx483_1
                have hw483_0 := hx483_0
                cases e483
                replace hx483_0 := hc HB hx483_0
                replace hx483_1 := hc HB hx483_1
                have HR483_1 := Aside0.mk hi483_1
                have HC483_1 := Aside0.mk hl483_1
                clear hi483_1 hl483_1
                replace p483 := eq_true p483
                replace q483 := eq_true q483
                refine start_ (n := 12) (S := fun w' => w'.cell? ⟨gb479, 0, none⟩ = some (.string a1_0) ∧ w'.cell? ⟨gb479, 1, none⟩ = some (.slice A1_1 l1_1.length c1_1) ∧ w'.cell? (ad483.add ((x6_1).toNat * 2)) = some (.string ((rd_T39 l0 x6_1).f0)) ∧ w'.cell? ⟨(ad483.add ((x6_1).toNat * 2)).block, (ad483.add ((x6_1).toNat * 2)).off + 1, none⟩ = some (.slice A483_1 ((rd_T39 l0 x6_1).f1).length c483_1)) (ds := []) (bl 12 0) (by kernel_rfl) rfl rfl ⟨(blk_cell BK479.out 0).trans rfl, (blk_cell BK479.out 1).trans rfl, (hc HB hw483_0), (hc HB hw483_1)⟩ (fun hHeld => ?_); refine with_tabW spec_l4With.tab5 spec_l4With.bits5 (fun HT_ HW_ => ?_)
                generalize wr.drew = w23 at HO_5 BK479 HB HR483_1 hx483_0 hx483_1 hHeld ⊢
                refine pu 1 18 (bl 12 2) ?_
                refine pu 2 19 (bl 12 6) ?_
                refine pu 3 20 (bl 12 14) ?_
                refine tk 0 17 (bl 12 15) ?_ hHeld
                refine tk 4 21 (bl 12 31) ?_ hHeld
                refine join_ (σ := Nat) 2 #[true, true, true, true, true, true, true, true, true, true, false, false] (fun s_ => [(22, .tuple #[.agg #[.string t484, .string t485, .int .i64 t486, .int .i64 t487, .int .i64 t488], .bool true]), (7, .pointer (some ⟨s_, 0, none⟩)), (16, .tuple #[.agg #[.string t484, .string t485, .int .i64 t486, .int .i64 t487, .int .i64 t488], .bool true]), (23, .agg #[.string t484, .string t485, .int .i64 t486, .int .i64 t487, .int .i64 t488]), (24, .bool true)]) (fun s_ w' => (w'.cell? ⟨gb479, 0, none⟩ = some (.string a1_0) ∧ w'.cell? ⟨gb479, 1, none⟩ = some (.slice A1_1 l1_1.length c1_1) ∧ w'.cell? (ad483.add ((x6_1).toNat * 2)) = some (.string ((rd_T39 l0 x6_1).f0)) ∧ w'.cell? ⟨(ad483.add ((x6_1).toNat * 2)).block, (ad483.add ((x6_1).toNat * 2)).off + 1, none⟩ = some (.slice A483_1 ((rd_T39 l0 x6_1).f1).length c483_1)) ∧ (Kd.R k52 52 w' w.heap.size (fun k_ => k_ ≠ s_) u5 x5_1) ∧ (w'.heap[gb479]? = some (.cells #[.string a1_0, .slice A1_1 l1_1.length c1_1] 39 (0, 0))) ∧ (w'.heap[s_]? = some (.cells #[.string (⟨#[]⟩ : ByteArray), .string (⟨#[]⟩ : ByteArray), .int .i64 0, .int .i64 0, .int .i64 0] 52 (0, 0))) ∧ (w.heap.size ≤ s_) ∧ (w.heap.size ≤ s_) ∧ (gb479 ≠ s_) ∧ (s_ ≠ gb479) ∧ (Below w.heap.size w w')) ?_ ?_
                rotate_left
                · intro hCont
                  refine two_ (i := 5) (j := 9) (Ni := some 22) (Nj := some 7) #[true, true, true, true, true, true, false, false, false, false, false, false] #[true, true, true, true, true, false, false, false, false, true, false, false] rfl rfl rfl rfl (two_of HT_.out (by kernel_rfl)) (by decide) (by decide) (fun K hK => ?_) (fun K hK => ?_)
                  · skip
                    refine gs Try.func58 #[.agg #[.string a1_0, .slice A1_1 l1_1.length c1_1], .agg #[.string ((rd_T39 l0 x6_1).f0), .slice A483_1 ((rd_T39 l0 x6_1).f1).length c483_1]] ?_
                    with_reducible refine (spec_l3Meet.calls k1 a1_0 _ _ l1_1 ((rd_T39 l0 x6_1).f0) _ _ ((rd_T39 l0 x6_1).f1) t484 t485 t486 t487 t488 true _ ?side1 ?side2 ?side3 ?side4 A8.out).mono ?_
                    (case side1 => exact sc HR1_1)
                    (case side2 => exact HC1_1.out)
                    (case side3 => exact sc HR483_1)
                    (case side4 => exact HC483_1.out)
                    rintro e w24 ⟨rfl, hb⟩
                    refine ⟨_, rfl, ?_⟩
                    have n0 := ra (Kd.R_below (rq HO_5) hb)
                    have n1 := bb (bk BK479) hb
                    have n2 := bs hb
                    clear HO_5 BK479 HB
                    have HO_5 := n0
                    have BK479 := n1
                    have HB := n2
                    clear n0 n1 n2
                    (try clear hb)
                    (try clear hb2)
                    (try clear hk)
                    (try clear hi)
                    refine hK.out _ _ ⟨(blk_cell BK479.out 0).trans rfl, (blk_cell BK479.out 1).trans rfl, (hc HB hw483_0), (hc HB hw483_1)⟩ (fun hHeld => ?_)
                    clear hK K
                    refine nm 22 ?_
                    refine pu 6 16 (bl 12 127) ?_
                    refine pu 7 23 (bl 12 255) ?_
                    refine pu 8 24 (bl 12 511) ?_
                    refine oe 9 7 (bl 12 1023) (fun K hK => ?_)
                    refine box_step ?hg (N := 7) ?hd (cs := #[.string (⟨#[]⟩ : ByteArray), .string (⟨#[]⟩ : ByteArray), .int .i64 0, .int .i64 0, .int .i64 0]) (t := 52) ?hr ?_; (case hd => rfl); (case hg => rfl); (case hr => first | (go_simp; done) | (go_simp; rfl))
                    intro gb490 hg w25 hbox hb
                    have n0 := ra (Kd.R_below (Kd.R_elderB (rq HO_5) gb490 (Nat.le_of_eq hg.symm)) hb)
                    have n1 := bb (bk BK479) hb
                    have n2 := bs hb
                    have n3 := ra (hbox)
                    have n4 := bz (w0 := w) hg
                    have n5 := bz (w0 := w) hg
                    have n6 := bn hg (bk BK479)
                    have n7 := bm hg (bk BK479)
                    clear HO_5 BK479 HB
                    have HO_5 := n0
                    have BK479 := n1
                    have HB := n2
                    have BK490 := n3
                    have GW490 := n4
                    have GE490 := n5
                    have NB479_490 := n6
                    have NB490_479 := n7
                    clear n0 n1 n2 n3 n4 n5 n6 n7
                    clear hb hbox hg
                    refine hK.out _ _ ⟨(blk_cell BK479.out 0).trans rfl, (blk_cell BK479.out 1).trans rfl, (hc HB hw483_0), (hc HB hw483_1)⟩ (fun hHeld => ?_)
                    clear hK K
                    refine nm 7 ?_
                    exact norm_ (by simp only [putAll, Act.put, List.setIfInBounds_toArray, List.set_cons_zero, List.set_cons_succ]) (hCont (gb490) _ ⟨hHeld, (by (with_reducible repeat (first | apply Kd.R_alloc | apply Kd.R_drewN | apply Kd.R_drew)); exact Kd.R_mono HO_5.out (fun _ hk => hk.2)), (bk BK479), (bk BK490), GW490.out, GE490.out, NB479_490.out, NB490_479.out, bq⟩)
                  · skip
                    refine box_step ?hg (N := 7) ?hd (cs := #[.string (⟨#[]⟩ : ByteArray), .string (⟨#[]⟩ : ByteArray), .int .i64 0, .int .i64 0, .int .i64 0]) (t := 52) ?hr ?_; (case hd => rfl); (case hg => rfl); (case hr => first | (go_simp; done) | (go_simp; rfl))
                    intro gb490 hg w24 hbox hb
                    have n0 := ra (Kd.R_below (Kd.R_elderB (rq HO_5) gb490 (Nat.le_of_eq hg.symm)) hb)
                    have n1 := bb (bk BK479) hb
                    have n2 := bs hb
                    have n3 := ra (hbox)
                    have n4 := bz (w0 := w) hg
                    have n5 := bz (w0 := w) hg
                    have n6 := bn hg (bk BK479)
                    have n7 := bm hg (bk BK479)
                    clear HO_5 BK479 HB
                    have HO_5 := n0
                    have BK479 := n1
                    have HB := n2
                    have BK490 := n3
                    have GW490 := n4
                    have GE490 := n5
                    have NB479_490 := n6
                    have NB490_479 := n7
                    clear n0 n1 n2 n3 n4 n5 n6 n7
                    clear hb hbox hg
                    refine hK.out _ _ ⟨(blk_cell BK479.out 0).trans rfl, (blk_cell BK479.out 1).trans rfl, (hc HB hw483_0), (hc HB hw483_1)⟩ (fun hHeld => ?_)
                    clear hK K
                    refine nm 7 ?_
                    refine oe 5 22 (bl 12 575) (fun K hK => ?_)
                    refine gs Try.func58 #[.agg #[.string a1_0, .slice A1_1 l1_1.length c1_1], .agg #[.string ((rd_T39 l0 x6_1).f0), .slice A483_1 ((rd_T39 l0 x6_1).f1).length c483_1]] ?_
                    with_reducible refine (spec_l3Meet.calls k1 a1_0 _ _ l1_1 ((rd_T39 l0 x6_1).f0) _ _ ((rd_T39 l0 x6_1).f1) t484 t485 t486 t487 t488 true _ ?side1 ?side2 ?side3 ?side4 A8.out).mono ?_
                    (case side1 => exact sc HR1_1)
                    (case side2 => exact HC1_1.out)
                    (case side3 => exact sc HR483_1)
                    (case side4 => exact HC483_1.out)
                    rintro e w25 ⟨rfl, hb⟩
                    refine ⟨_, rfl, ?_⟩
                    have n0 := ra (Kd.R_below (rq HO_5) hb)
                    have n1 := bb (bk BK479) hb
                    have n2 := bb (bk BK490) hb
                    have n3 := bs hb
                    clear HO_5 BK479 BK490 HB
                    have HO_5 := n0
                    have BK479 := n1
                    have BK490 := n2
                    have HB := n3
                    clear n0 n1 n2 n3
                    (try clear hb)
                    (try clear hb2)
                    (try clear hk)
                    (try clear hi)
                    refine hK.out _ _ ⟨(blk_cell BK479.out 0).trans rfl, (blk_cell BK479.out 1).trans rfl, (hc HB hw483_0), (hc HB hw483_1)⟩ (fun hHeld => ?_)
                    clear hK K
                    refine nm 22 ?_
                    refine pu 6 16 (bl 12 639) ?_
                    refine pu 7 23 (bl 12 767) ?_
                    refine pu 8 24 (bl 12 1023) ?_
                    exact norm_ (by simp only [putAll, Act.put, List.setIfInBounds_toArray, List.set_cons_zero, List.set_cons_succ]) (hCont (gb490) _ ⟨hHeld, (by (with_reducible repeat (first | apply Kd.R_alloc | apply Kd.R_drewN | apply Kd.R_drew)); exact Kd.R_mono HO_5.out (fun _ hk => hk.2)), (bk BK479), (bk BK490), GW490.out, GE490.out, NB479_490.out, NB490_479.out, bq⟩)
                rintro gb490 w26 ⟨hS_, h0_, h1_, h2_, h3_, h4_, h5_, h6_, h7_⟩
                have n0 : Aside0 (Kd.R k52 52 w26 w.heap.size (fun k_ => k_ ≠ gb490) u5 x5_1) := ⟨h0_⟩
                have n1 : Aside0 (w26.heap[gb479]? = some (.cells #[.string a1_0, .slice A1_1 l1_1.length c1_1] 39 (0, 0))) := ⟨h1_⟩
                have n2 : Aside0 (w26.heap[gb490]? = some (.cells #[.string (⟨#[]⟩ : ByteArray), .string (⟨#[]⟩ : ByteArray), .int .i64 0, .int .i64 0, .int .i64 0] 52 (0, 0))) := ⟨h2_⟩
                have n3 : Aside0 (w.heap.size ≤ gb490) := ⟨h3_⟩
                have n4 : Aside0 (w.heap.size ≤ gb490) := ⟨h4_⟩
                have n5 : Aside0 (gb479 ≠ gb490) := ⟨h5_⟩
                have n6 : Aside0 (gb490 ≠ gb479) := ⟨h6_⟩
                have n7 : Aside0 (Below w.heap.size w w26) := ⟨h7_⟩
                clear HO_5 BK479 HB
                clear h0_ h1_ h2_ h3_ h4_ h5_ h6_ h7_
                have HO_5 := n0
                have BK479 := n1
                have BK490 := n2
                have GW490 := n3
                have GE490 := n4
                have NB479_490 := n5
                have NB490_479 := n6
                have HB := n7
                clear n0 n1 n2 n3 n4 n5 n6 n7
                have hHeld : w26.cell? ⟨gb479, 0, none⟩ = some (.string a1_0) ∧ w26.cell? ⟨gb479, 1, none⟩ = some (.slice A1_1 l1_1.length c1_1) ∧ w26.cell? (ad483.add ((x6_1).toNat * 2)) = some (.string ((rd_T39 l0 x6_1).f0)) ∧ w26.cell? ⟨(ad483.add ((x6_1).toNat * 2)).block, (ad483.add ((x6_1).toNat * 2)).off + 1, none⟩ = some (.slice A483_1 ((rd_T39 l0 x6_1).f1).length c483_1) := hS_
                refine norm_ (a' := ?_) ?_ ?_
                rotate_left
                · simp only [putAll, Act.put, List.setIfInBounds_toArray, List.set_cons_zero, List.set_cons_succ]
                  rfl
                refine one_ (i := 10) (N := none) #[true, true, true, true, true, true, true, true, true, true, true, false] rfl rfl (one_of HT_.out (by kernel_rfl)) (by decide) (fun K hK => ?_)
                have hs27 : w26.cell? ⟨gb490, 0, none⟩ = some (.string (⟨#[]⟩ : ByteArray)) := (blk_cell BK490.out 0).trans rfl
                have hfs27 := blk_frozen BK490.out 0
                have hns27_0 := NB479_490.out
                have hms27_0 := NB490_479.out
                have hs28 : w26.cell? ⟨gb490, 1, none⟩ = some (.string (⟨#[]⟩ : ByteArray)) := (blk_cell BK490.out 1).trans rfl
                have hfs28 := blk_frozen BK490.out 1
                have hns28_0 := NB479_490.out
                have hms28_0 := NB490_479.out
                have hs29 : w26.cell? ⟨gb490, 2, none⟩ = some (.int .i64 0) := (blk_cell BK490.out 2).trans rfl
                have hfs29 := blk_frozen BK490.out 2
                have hns29_0 := NB479_490.out
                have hms29_0 := NB490_479.out
                have hs30 : w26.cell? ⟨gb490, 3, none⟩ = some (.int .i64 0) := (blk_cell BK490.out 3).trans rfl
                have hfs30 := blk_frozen BK490.out 3
                have hns30_0 := NB479_490.out
                have hms30_0 := NB490_479.out
                have hs31 : w26.cell? ⟨gb490, 4, none⟩ = some (.int .i64 0) := (blk_cell BK490.out 4).trans rfl
                have hfs31 := blk_frozen BK490.out 4
                have hns31_0 := NB479_490.out
                have hms31_0 := NB490_479.out
                refine skip_ (w1 := ?_) (by rfl) rfl ?_ ?_
                rotate_left
                · go_simp
                  rfl
                refine hK.out _ _ ⟨((cell_far (p := ⟨gb490, _, none⟩) NB479_490.out _).trans (((cell_far (p := ⟨gb490, _, none⟩) NB479_490.out _).trans (((cell_far (p := ⟨gb490, _, none⟩) NB479_490.out _).trans (((cell_far (p := ⟨gb490, _, none⟩) NB479_490.out _).trans (((cell_far (p := ⟨gb490, _, none⟩) NB479_490.out _).trans (hHeld.1)))))))))), ((cell_far (p := ⟨gb490, _, none⟩) NB479_490.out _).trans (((cell_far (p := ⟨gb490, _, none⟩) NB479_490.out _).trans (((cell_far (p := ⟨gb490, _, none⟩) NB479_490.out _).trans (((cell_far (p := ⟨gb490, _, none⟩) NB479_490.out _).trans (((cell_far (p := ⟨gb490, _, none⟩) NB479_490.out _).trans (hHeld.2.1)))))))))), ((cell_far (p := ⟨gb490, _, none⟩) (by first | exact Nat.ne_of_lt (Nat.lt_of_lt_of_le (by have := World.block_lt_of_cell? _ _ hw483_0; first | rwa [add_block] at this | exact this) GW490.out) | (rw [add_block]; exact Nat.ne_of_lt (Nat.lt_of_lt_of_le (by have := World.block_lt_of_cell? _ _ hw483_0; first | rwa [add_block] at this | exact this) GW490.out)) | (show (Addr.add _ _).block ≠ _; rw [add_block]; exact Nat.ne_of_lt (Nat.lt_of_lt_of_le (by have := World.block_lt_of_cell? _ _ hw483_0; first | rwa [add_block] at this | exact this) GW490.out)) | (dsimp only; exact Nat.ne_of_lt (Nat.lt_of_lt_of_le (by have := World.block_lt_of_cell? _ _ hw483_0; first | rwa [add_block] at this | exact this) GW490.out))) _).trans (((cell_far (p := ⟨gb490, _, none⟩) (by first | exact Nat.ne_of_lt (Nat.lt_of_lt_of_le (by have := World.block_lt_of_cell? _ _ hw483_0; first | rwa [add_block] at this | exact this) GW490.out) | (rw [add_block]; exact Nat.ne_of_lt (Nat.lt_of_lt_of_le (by have := World.block_lt_of_cell? _ _ hw483_0; first | rwa [add_block] at this | exact this) GW490.out)) | (show (Addr.add _ _).block ≠ _; rw [add_block]; exact Nat.ne_of_lt (Nat.lt_of_lt_of_le (by have := World.block_lt_of_cell? _ _ hw483_0; first | rwa [add_block] at this | exact this) GW490.out)) | (dsimp only; exact Nat.ne_of_lt (Nat.lt_of_lt_of_le (by have := World.block_lt_of_cell? _ _ hw483_0; first | rwa [add_block] at this | exact this) GW490.out))) _).trans (((cell_far (p := ⟨gb490, _, none⟩) (by first | exact Nat.ne_of_lt (Nat.lt_of_lt_of_le (by have := World.block_lt_of_cell? _ _ hw483_0; first | rwa [add_block] at this | exact this) GW490.out) | (rw [add_block]; exact Nat.ne_of_lt (Nat.lt_of_lt_of_le (by have := World.block_lt_of_cell? _ _ hw483_0; first | rwa [add_block] at this | exact this) GW490.out)) | (show (Addr.add _ _).block ≠ _; rw [add_block]; exact Nat.ne_of_lt (Nat.lt_of_lt_of_le (by have := World.block_lt_of_cell? _ _ hw483_0; first | rwa [add_block] at this | exact this) GW490.out)) | (dsimp only; exact Nat.ne_of_lt (Nat.lt_of_lt_of_le (by have := World.block_lt_of_cell? _ _ hw483_0; first | rwa [add_block] at this | exact this) GW490.out))) _).trans (((cell_far (p := ⟨gb490, _, none⟩) (by first | exact Nat.ne_of_lt (Nat.lt_of_lt_of_le (by have := World.block_lt_of_cell? _ _ hw483_0; first | rwa [add_block] at this | exact this) GW490.out) | (rw [add_block]; exact Nat.ne_of_lt (Nat.lt_of_lt_of_le (by have := World.block_lt_of_cell? _ _ hw483_0; first | rwa [add_block] at this | exact this) GW490.out)) | (show (Addr.add _ _).block ≠ _; rw [add_block]; exact Nat.ne_of_lt (Nat.lt_of_lt_of_le (by have := World.block_lt_of_cell? _ _ hw483_0; first | rwa [add_block] at this | exact this) GW490.out)) | (dsimp only; exact Nat.ne_of_lt (Nat.lt_of_lt_of_le (by have := World.block_lt_of_cell? _ _ hw483_0; first | rwa [add_block] at this | exact this) GW490.out))) _).trans (((cell_far (p := ⟨gb490, _, none⟩) (by first | exact Nat.ne_of_lt (Nat.lt_of_lt_of_le (by have := World.block_lt_of_cell? _ _ hw483_0; first | rwa [add_block] at this | exact this) GW490.out) | (rw [add_block]; exact Nat.ne_of_lt (Nat.lt_of_lt_of_le (by have := World.block_lt_of_cell? _ _ hw483_0; first | rwa [add_block] at this | exact this) GW490.out)) | (show (Addr.add _ _).block ≠ _; rw [add_block]; exact Nat.ne_of_lt (Nat.lt_of_lt_of_le (by have := World.block_lt_of_cell? _ _ hw483_0; first | rwa [add_block] at this | exact this) GW490.out)) | (dsimp only; exact Nat.ne_of_lt (Nat.lt_of_lt_of_le (by have := World.block_lt_of_cell? _ _ hw483_0; first | rwa [add_block] at this | exact this) GW490.out))) _).trans (hHeld.2.2.1)))))))))), ((cell_far (p := ⟨gb490, _, none⟩) (by first | exact Nat.ne_of_lt (Nat.lt_of_lt_of_le (by have := World.block_lt_of_cell? _ _ hw483_1; first | rwa [add_block] at this | exact this) GW490.out) | (rw [add_block]; exact Nat.ne_of_lt (Nat.lt_of_lt_of_le (by have := World.block_lt_of_cell? _ _ hw483_1; first | rwa [add_block] at this | exact this) GW490.out)) | (show (Addr.add _ _).block ≠ _; rw [add_block]; exact Nat.ne_of_lt (Nat.lt_of_lt_of_le (by have := World.block_lt_of_cell? _ _ hw483_1; first | rwa [add_block] at this | exact this) GW490.out)) | (dsimp only; exact Nat.ne_of_lt (Nat.lt_of_lt_of_le (by have := World.block_lt_of_cell? _ _ hw483_1; first | rwa [add_block] at this | exact this) GW490.out))) _).trans (((cell_far (p := ⟨gb490, _, none⟩) (by first | exact Nat.ne_of_lt (Nat.lt_of_lt_of_le (by have := World.block_lt_of_cell? _ _ hw483_1; first | rwa [add_block] at this | exact this) GW490.out) | (rw [add_block]; exact Nat.ne_of_lt (Nat.lt_of_lt_of_le (by have := World.block_lt_of_cell? _ _ hw483_1; first | rwa [add_block] at this | exact this) GW490.out)) | (show (Addr.add _ _).block ≠ _; rw [add_block]; exact Nat.ne_of_lt (Nat.lt_of_lt_of_le (by have := World.block_lt_of_cell? _ _ hw483_1; first | rwa [add_block] at this | exact this) GW490.out)) | (dsimp only; exact Nat.ne_of_lt (Nat.lt_of_lt_of_le (by have := World.block_lt_of_cell? _ _ hw483_1; first | rwa [add_block] at this | exact this) GW490.out))) _).trans (((cell_far (p := ⟨gb490, _, none⟩) (by first | exact Nat.ne_of_lt (Nat.lt_of_lt_of_le (by have := World.block_lt_of_cell? _ _ hw483_1; first | rwa [add_block] at this | exact this) GW490.out) | (rw [add_block]; exact Nat.ne_of_lt (Nat.lt_of_lt_of_le (by have := World.block_lt_of_cell? _ _ hw483_1; first | rwa [add_block] at this | exact this) GW490.out)) | (show (Addr.add _ _).block ≠ _; rw [add_block]; exact Nat.ne_of_lt (Nat.lt_of_lt_of_le (by have := World.block_lt_of_cell? _ _ hw483_1; first | rwa [add_block] at this | exact this) GW490.out)) | (dsimp only; exact Nat.ne_of_lt (Nat.lt_of_lt_of_le (by have := World.block_lt_of_cell? _ _ hw483_1; first | rwa [add_block] at this | exact this) GW490.out))) _).trans (((cell_far (p := ⟨gb490, _, none⟩) (by first | exact Nat.ne_of_lt (Nat.lt_of_lt_of_le (by have := World.block_lt_of_cell? _ _ hw483_1; first | rwa [add_block] at this | exact this) GW490.out) | (rw [add_block]; exact Nat.ne_of_lt (Nat.lt_of_lt_of_le (by have := World.block_lt_of_cell? _ _ hw483_1; first | rwa [add_block] at this | exact this) GW490.out)) | (show (Addr.add _ _).block ≠ _; rw [add_block]; exact Nat.ne_of_lt (Nat.lt_of_lt_of_le (by have := World.block_lt_of_cell? _ _ hw483_1; first | rwa [add_block] at this | exact this) GW490.out)) | (dsimp only; exact Nat.ne_of_lt (Nat.lt_of_lt_of_le (by have := World.block_lt_of_cell? _ _ hw483_1; first | rwa [add_block] at this | exact this) GW490.out))) _).trans (((cell_far (p := ⟨gb490, _, none⟩) (by first | exact Nat.ne_of_lt (Nat.lt_of_lt_of_le (by have := World.block_lt_of_cell? _ _ hw483_1; first | rwa [add_block] at this | exact this) GW490.out) | (rw [add_block]; exact Nat.ne_of_lt (Nat.lt_of_lt_of_le (by have := World.block_lt_of_cell? _ _ hw483_1; first | rwa [add_block] at this | exact this) GW490.out)) | (show (Addr.add _ _).block ≠ _; rw [add_block]; exact Nat.ne_of_lt (Nat.lt_of_lt_of_le (by have := World.block_lt_of_cell? _ _ hw483_1; first | rwa [add_block] at this | exact this) GW490.out)) | (dsimp only; exact Nat.ne_of_lt (Nat.lt_of_lt_of_le (by have := World.block_lt_of_cell? _ _ hw483_1; first | rwa [add_block] at this | exact this) GW490.out))) _).trans (hHeld.2.2.2))))))))))⟩ (fun hHeld => ?_)
                clear hK K
                refine pu 11 8 (bl 12 4095) ?_
                refine done_ (done_of HT_.out (by kernel_rfl)) ?_
                try go_wp2
                have n0 : Aside0 (Kd.R k52 52 (((((w26.setCell ⟨gb490, 0, none⟩ (.string t484)).setCell ⟨gb490, 1, none⟩ (.string t485)).setCell ⟨gb490, 2, none⟩ (.int .i64 t486)).setCell ⟨gb490, 3, none⟩ (.int .i64 t487)).setCell ⟨gb490, 4, none⟩ (.int .i64 t488)) w.heap.size (fun k_ => k_ ≠ gb490) u5 x5_1) := ⟨by (with_reducible repeat (first | apply Kd.R_alloc | apply Kd.R_drewN | apply Kd.R_drew)); exact Kd.R_mono (rf (Kd.R_mono HO_5.out (fun k_ hk => (⟨hk, hk⟩ : _ ∧ k_ ≠ gb490)))) (fun _ hk => hk.1)⟩
                have n1 : Aside0 ((((((w26.setCell ⟨gb490, 0, none⟩ (.string t484)).setCell ⟨gb490, 1, none⟩ (.string t485)).setCell ⟨gb490, 2, none⟩ (.int .i64 t486)).setCell ⟨gb490, 3, none⟩ (.int .i64 t487)).setCell ⟨gb490, 4, none⟩ (.int .i64 t488)).heap[gb479]? = some (.cells #[.string a1_0, .slice A1_1 l1_1.length c1_1] 39 (0, 0))) := ⟨bk BK479⟩
                have n2 : Aside0 ((((((w26.setCell ⟨gb490, 0, none⟩ (.string t484)).setCell ⟨gb490, 1, none⟩ (.string t485)).setCell ⟨gb490, 2, none⟩ (.int .i64 t486)).setCell ⟨gb490, 3, none⟩ (.int .i64 t487)).setCell ⟨gb490, 4, none⟩ (.int .i64 t488)).heap[gb490]? = some (.cells #[.string t484, .string t485, .int .i64 t486, .int .i64 t487, .int .i64 t488] 52 (0, 0))) := ⟨bp BK490⟩
                have n3 : Aside0 (Below w.heap.size w (((((w26.setCell ⟨gb490, 0, none⟩ (.string t484)).setCell ⟨gb490, 1, none⟩ (.string t485)).setCell ⟨gb490, 2, none⟩ (.int .i64 t486)).setCell ⟨gb490, 3, none⟩ (.int .i64 t487)).setCell ⟨gb490, 4, none⟩ (.int .i64 t488))) := ⟨bq⟩
                (try clear HO_5)
                (try clear BK479)
                (try clear BK490)
                (try clear HB)
                generalize (((((w26.setCell ⟨gb490, 0, none⟩ (.string t484)).setCell ⟨gb490, 1, none⟩ (.string t485)).setCell ⟨gb490, 2, none⟩ (.int .i64 t486)).setCell ⟨gb490, 3, none⟩ (.int .i64 t487)).setCell ⟨gb490, 4, none⟩ (.int .i64 t488)) = w32 at n0 n1 n2 n3 ⊢
                have HO_5 := n0
                have BK479 := n1
                have BK490 := n2
                have HB := n3
                clear n0 n1 n2 n3
                have n0 := ra (Kd.R_drew HO_5.out)
                have n1 := ra (blk_drew BK479.out)
                have n2 := ra (blk_drew BK490.out)
                have n3 := ra (below_drew1 HB.out)
                clear HO_5 BK479 BK490 HB
                have HO_5 := n0
                have BK479 := n1
                have BK490 := n2
                have HB := n3
                clear n0 n1 n2 n3
                have p491 : 0 ≤ (x6_1 : Int) := od
                have q491 : x6_1 < (l0.length : Int) := od
                obtain ⟨ad491, A491_1, c491_1, e491, hx491_0, hx491_1, hl491_1, hi491_1⟩ := at_T39 HR0.out x6_1 p491 q491
                have hw491_1 := hx491_1
                have hw491_0 := hx491_0
                obtain rfl : ad483 = ad491 := (by injection e491)
                replace hx491_0 := hc HB hx491_0
                replace hx491_1 := hc HB hx491_1
                have HR491_1 := Aside0.mk hi491_1
                have HC491_1 := Aside0.mk hl491_1
                clear hi491_1 hl491_1
                replace p491 := eq_true p491
                replace q491 := eq_true q491
                refine start_ (n := 11) (S := fun w' => w'.cell? ⟨gb479, 0, none⟩ = some (.string a1_0) ∧ w'.cell? ⟨gb479, 1, none⟩ = some (.slice A1_1 l1_1.length c1_1) ∧ w'.cell? (ad483.add ((x6_1).toNat * 2)) = some (.string ((rd_T39 l0 x6_1).f0)) ∧ w'.cell? ⟨(ad483.add ((x6_1).toNat * 2)).block, (ad483.add ((x6_1).toNat * 2)).off + 1, none⟩ = some (.slice A491_1 ((rd_T39 l0 x6_1).f1).length c491_1)) (ds := []) (bl 11 0) (by kernel_rfl) rfl rfl ⟨(blk_cell BK479.out 0).trans rfl, (blk_cell BK479.out 1).trans rfl, (hc HB hw491_0), (hc HB hw491_1)⟩ (fun hHeld => ?_); refine with_tabW spec_l4With.tab6 spec_l4With.bits6 (fun HT_ HW_ => ?_)
                generalize w32.drew = w33 at HO_5 BK479 BK490 HB HR491_1 hx491_0 hx491_1 hHeld ⊢
                refine pu 0 25 (bl 11 1) ?_
                refine pu 1 26 (bl 11 3) ?_
                refine pu 2 27 (bl 11 7) ?_
                refine pu 3 28 (bl 11 15) ?_
                refine pu 4 29 (bl 11 31) ?_
                refine pu 5 30 (bl 11 63) ?_
                refine pu 7 32 (bl 11 191) ?_
                refine tk 6 31 (bl 11 255) ?_ hHeld
                refine tk 8 33 (bl 11 511) ?_ hHeld
                refine pu 9 34 (bl 11 1023) ?_
                refine pu 10 35 (bl 11 2047) ?_
                refine done_ (done_of HT_.out (by kernel_rfl)) ?_
                have hnb34 := NB490_479.out
                have hnc34 := NB479_490.out
                obtain ⟨hcz35_0, hcz35_1, hcz35_2, hcz35_3, hcz35_4, hfz35_0, hfz35_1, hfz35_2, hfz35_3, hfz35_4⟩ := zc5 BK490
                try go_wp2_with (first | ((with_reducible refine gate_builtin (b := .append) (xs := #[.tmp 36, .tmp 38]) rfl ?_); at_builtin; refine Kd.R_append k52 (w0 := w) w.heap.size rfl (.tmp 36) (.tmp 38) 79 52 (.agg #[(.string ⟨#[]⟩), (.string ⟨#[]⟩), (.int .i64 0), (.int .i64 0), (.int .i64 0)]) 56 rfl Try.underlying79 info52 rfl (by decide) (by omega) u5 x5_1 (⟨t484, t485, t486, t487, t488⟩ : S52) [.string t484, .string t485, .int .i64 t486, .int .i64 t487, .int .i64 t488] (fun k_ => k_ ≠ gb490) (fun _ => False) rfl rfl ?aP (fun _ hk => hk.elim) ?aF ?aO ?aB ?aS ?aL ?_; (case aP => exact k52_mkM _ _ _ (⟨t484, t485, t486, t487, t488⟩ : S52)); (case aB => exact bq); (case aF => exact (fun k_ hk => Kd.freshB (g := gb490) (o := .cells #[.string t484, .string t485, .int .i64 t486, .int .i64 t487, .int .i64 t488] 52 (0, 0)) (bk BK490) k_ hk)); (case aO => exact (rq HO_5)); (case aS => exact (below_size bq)); (case aL => have := LMc22.out; omega); intro v493 w36 ho hb hg hat; rw [← Ny492.out] at ho; have n0 := ra (blk_grown (g := gb479) (o := .cells #[.string a1_0, .slice A1_1 l1_1.length c1_1] 39 (0, 0)) (bk BK479) hg (Kd.R_ne HO_5.out BK479.out (by decide))); have n1 := ra (blk_grown (g := gb490) (o := .cells #[.string t484, .string t485, .int .i64 t486, .int .i64 t487, .int .i64 t488] 52 (0, 0)) (bk BK490) hg (Kd.R_away HO_5.out (fun _ hk => hk))); have n2 := ra (hb); have n3 := ra (ho); clear BK479 BK490 HB HO_5; have BK479 := n0; have BK490 := n1; have HB := n2; have HO494 := n3; clear n0 n1 n2 n3; clear ho hb hg hat))
                go_roundg k1
                case measure => have := HK1.out; omega
                case rel => exact ⟨(y492), (wrap64 (x6_1 + 1)), rs, H', ⟨by have := HK1.out; omega⟩, ⟨by (with_reducible repeat (first | apply Kd.R_alloc | apply Kd.R_drewN | apply Kd.R_drew)); exact Kd.R_mono HO494.out (fun _ hk => trivial)⟩, ⟨bk BK479⟩, ⟨bq⟩⟩
              · rw [if_neg c22] at H
                exact absurd H (by simp)
          · replace c9 := Bool.eq_false_iff.mpr c9
            subst c9
            have H1 : (spec_l4With.l0 k1 l0 x5_1 (wrap64 (x6_1 + 1)) a1_0 l1_1) = some r := by rw [if_neg (show ¬ (false = true) by decide)] at H; exact H
            clear H
            have H := H1
            clear H1
            have H' := Aside0.mk H
            clear H
            try go_wp2
            have n0 := ra (Kd.R_drew HO_5.out)
            have n1 := ra (blk_drew BK479.out)
            have n2 := ra (below_drew1 HB.out)
            clear HO_5 BK479 HB
            have HO_5 := n0
            have BK479 := n1
            have HB := n2
            clear n0 n1 n2
            have p483 : 0 ≤ (x6_1 : Int) := od
            have q483 : x6_1 < (l0.length : Int) := od
            obtain ⟨ad483, A483_1, c483_1, e483, hx483_0, hx483_1, hl483_1, hi483_1⟩ := at_T39 HR0.out x6_1 p483 q483
            have hw483_1 := hx483_1
            have hw483_0 := hx483_0
            cases e483
            replace hx483_0 := hc HB hx483_0
            replace hx483_1 := hc HB hx483_1
            have HR483_1 := Aside0.mk hi483_1
            have HC483_1 := Aside0.mk hl483_1
            clear hi483_1 hl483_1
            replace p483 := eq_true p483
            replace q483 := eq_true q483
            refine start_ (n := 12) (S := fun w' => w'.cell? ⟨gb479, 0, none⟩ = some (.string a1_0) ∧ w'.cell? ⟨gb479, 1, none⟩ = some (.slice A1_1 l1_1.length c1_1) ∧ w'.cell? (ad483.add ((x6_1).toNat * 2)) = some (.string ((rd_T39 l0 x6_1).f0)) ∧ w'.cell? ⟨(ad483.add ((x6_1).toNat * 2)).block, (ad483.add ((x6_1).toNat * 2)).off + 1, none⟩ = some (.slice A483_1 ((rd_T39 l0 x6_1).f1).length c483_1)) (ds := []) (bl 12 0) (by kernel_rfl) rfl rfl ⟨(blk_cell BK479.out 0).trans rfl, (blk_cell BK479.out 1).trans rfl, (hc HB hw483_0), (hc HB hw483_1)⟩ (fun hHeld => ?_); refine with_tabW spec_l4With.tab5 spec_l4With.bits5 (fun HT_ HW_ => ?_)
            generalize wr.drew = w37 at HO_5 BK479 HB HR483_1 hx483_0 hx483_1 hHeld ⊢
            refine pu 1 18 (bl 12 2) ?_
            refine pu 2 19 (bl 12 6) ?_
            refine pu 3 20 (bl 12 14) ?_
            refine tk 0 17 (bl 12 15) ?_ hHeld
            refine tk 4 21 (bl 12 31) ?_ hHeld
            refine join_ (σ := Nat) 2 #[true, true, true, true, true, true, true, true, true, true, false, false] (fun s_ => [(22, .tuple #[.agg #[.string t484, .string t485, .int .i64 t486, .int .i64 t487, .int .i64 t488], .bool false]), (7, .pointer (some ⟨s_, 0, none⟩)), (16, .tuple #[.agg #[.string t484, .string t485, .int .i64 t486, .int .i64 t487, .int .i64 t488], .bool false]), (23, .agg #[.string t484, .string t485, .int .i64 t486, .int .i64 t487, .int .i64 t488]), (24, .bool false)]) (fun s_ w' => (w'.cell? ⟨gb479, 0, none⟩ = some (.string a1_0) ∧ w'.cell? ⟨gb479, 1, none⟩ = some (.slice A1_1 l1_1.length c1_1) ∧ w'.cell? (ad483.add ((x6_1).toNat * 2)) = some (.string ((rd_T39 l0 x6_1).f0)) ∧ w'.cell? ⟨(ad483.add ((x6_1).toNat * 2)).block, (ad483.add ((x6_1).toNat * 2)).off + 1, none⟩ = some (.slice A483_1 ((rd_T39 l0 x6_1).f1).length c483_1)) ∧ (Kd.R k52 52 w' w.heap.size (fun k_ => k_ ≠ s_) u5 x5_1) ∧ (w'.heap[gb479]? = some (.cells #[.string a1_0, .slice A1_1 l1_1.length c1_1] 39 (0, 0))) ∧ (w'.heap[s_]? = some (.cells #[.string (⟨#[]⟩ : ByteArray), .string (⟨#[]⟩ : ByteArray), .int .i64 0, .int .i64 0, .int .i64 0] 52 (0, 0))) ∧ (w.heap.size ≤ s_) ∧ (w.heap.size ≤ s_) ∧ (gb479 ≠ s_) ∧ (s_ ≠ gb479) ∧ (Below w.heap.size w w')) ?_ ?_
            rotate_left
            · intro hCont
              refine two_ (i := 5) (j := 9) (Ni := some 22) (Nj := some 7) #[true, true, true, true, true, true, false, false, false, false, false, false] #[true, true, true, true, true, false, false, false, false, true, false, false] rfl rfl rfl rfl (two_of HT_.out (by kernel_rfl)) (by decide) (by decide) (fun K hK => ?_) (fun K hK => ?_)
              · skip
                refine gs Try.func58 #[.agg #[.string a1_0, .slice A1_1 l1_1.length c1_1], .agg #[.string ((rd_T39 l0 x6_1).f0), .slice A483_1 ((rd_T39 l0 x6_1).f1).length c483_1]] ?_
                with_reducible refine (spec_l3Meet.calls k1 a1_0 _ _ l1_1 ((rd_T39 l0 x6_1).f0) _ _ ((rd_T39 l0 x6_1).f1) t484 t485 t486 t487 t488 false _ ?side1 ?side2 ?side3 ?side4 A8.out).mono ?_
                (case side1 => exact sc HR1_1)
                (case side2 => exact HC1_1.out)
                (case side3 => exact sc HR483_1)
                (case side4 => exact HC483_1.out)
                rintro e w38 ⟨rfl, hb⟩
                refine ⟨_, rfl, ?_⟩
                have n0 := ra (Kd.R_below (rq HO_5) hb)
                have n1 := bb (bk BK479) hb
                have n2 := bs hb
                clear HO_5 BK479 HB
                have HO_5 := n0
                have BK479 := n1
                have HB := n2
                clear n0 n1 n2
                (try clear hb)
                (try clear hb2)
                (try clear hk)
                (try clear hi)
                refine hK.out _ _ ⟨(blk_cell BK479.out 0).trans rfl, (blk_cell BK479.out 1).trans rfl, (hc HB hw483_0), (hc HB hw483_1)⟩ (fun hHeld => ?_)
                clear hK K
                refine nm 22 ?_
                refine pu 6 16 (bl 12 127) ?_
                refine pu 7 23 (bl 12 255) ?_
                refine pu 8 24 (bl 12 511) ?_
                refine oe 9 7 (bl 12 1023) (fun K hK => ?_)
                refine box_step ?hg (N := 7) ?hd (cs := #[.string (⟨#[]⟩ : ByteArray), .string (⟨#[]⟩ : ByteArray), .int .i64 0, .int .i64 0, .int .i64 0]) (t := 52) ?hr ?_; (case hd => rfl); (case hg => rfl); (case hr => first | (go_simp; done) | (go_simp; rfl))
                intro gb490 hg w39 hbox hb
                have n0 := ra (Kd.R_below (Kd.R_elderB (rq HO_5) gb490 (Nat.le_of_eq hg.symm)) hb)
                have n1 := bb (bk BK479) hb
                have n2 := bs hb
                have n3 := ra (hbox)
                have n4 := bz (w0 := w) hg
                have n5 := bz (w0 := w) hg
                have n6 := bn hg (bk BK479)
                have n7 := bm hg (bk BK479)
                clear HO_5 BK479 HB
                have HO_5 := n0
                have BK479 := n1
                have HB := n2
                have BK490 := n3
                have GW490 := n4
                have GE490 := n5
                have NB479_490 := n6
                have NB490_479 := n7
                clear n0 n1 n2 n3 n4 n5 n6 n7
                clear hb hbox hg
                refine hK.out _ _ ⟨(blk_cell BK479.out 0).trans rfl, (blk_cell BK479.out 1).trans rfl, (hc HB hw483_0), (hc HB hw483_1)⟩ (fun hHeld => ?_)
                clear hK K
                refine nm 7 ?_
                exact norm_ (by simp only [putAll, Act.put, List.setIfInBounds_toArray, List.set_cons_zero, List.set_cons_succ]) (hCont (gb490) _ ⟨hHeld, (by (with_reducible repeat (first | apply Kd.R_alloc | apply Kd.R_drewN | apply Kd.R_drew)); exact Kd.R_mono HO_5.out (fun _ hk => hk.2)), (bk BK479), (bk BK490), GW490.out, GE490.out, NB479_490.out, NB490_479.out, bq⟩)
              · skip
                refine box_step ?hg (N := 7) ?hd (cs := #[.string (⟨#[]⟩ : ByteArray), .string (⟨#[]⟩ : ByteArray), .int .i64 0, .int .i64 0, .int .i64 0]) (t := 52) ?hr ?_; (case hd => rfl); (case hg => rfl); (case hr => first | (go_simp; done) | (go_simp; rfl))
                intro gb490 hg w38 hbox hb
                have n0 := ra (Kd.R_below (Kd.R_elderB (rq HO_5) gb490 (Nat.le_of_eq hg.symm)) hb)
                have n1 := bb (bk BK479) hb
                have n2 := bs hb
                have n3 := ra (hbox)
                have n4 := bz (w0 := w) hg
                have n5 := bz (w0 := w) hg
                have n6 := bn hg (bk BK479)
                have n7 := bm hg (bk BK479)
                clear HO_5 BK479 HB
                have HO_5 := n0
                have BK479 := n1
                have HB := n2
                have BK490 := n3
                have GW490 := n4
                have GE490 := n5
                have NB479_490 := n6
                have NB490_479 := n7
                clear n0 n1 n2 n3 n4 n5 n6 n7
                clear hb hbox hg
                refine hK.out _ _ ⟨(blk_cell BK479.out 0).trans rfl, (blk_cell BK479.out 1).trans rfl, (hc HB hw483_0), (hc HB hw483_1)⟩ (fun hHeld => ?_)
                clear hK K
                refine nm 7 ?_
                refine oe 5 22 (bl 12 575) (fun K hK => ?_)
                refine gs Try.func58 #[.agg #[.string a1_0, .slice A1_1 l1_1.length c1_1], .agg #[.string ((rd_T39 l0 x6_1).f0), .slice A483_1 ((rd_T39 l0 x6_1).f1).length c483_1]] ?_
                with_reducible refine (spec_l3Meet.calls k1 a1_0 _ _ l1_1 ((rd_T39 l0 x6_1).f0) _ _ ((rd_T39 l0 x6_1).f1) t484 t485 t486 t487 t488 false _ ?side1 ?side2 ?side3 ?side4 A8.out).mono ?_
                (case side1 => exact sc HR1_1)
                (case side2 => exact HC1_1.out)
                (case side3 => exact sc HR483_1)
                (case side4 => exact HC483_1.out)
                rintro e w39 ⟨rfl, hb⟩
                refine ⟨_, rfl, ?_⟩
                have n0 := ra (Kd.R_below (rq HO_5) hb)
                have n1 := bb (bk BK479) hb
                have n2 := bb (bk BK490) hb
                have n3 := bs hb
                clear HO_5 BK479 BK490 HB
                have HO_5 := n0
                have BK479 := n1
                have BK490 := n2
                have HB := n3
                clear n0 n1 n2 n3
                (try clear hb)
                (try clear hb2)
                (try clear hk)
                (try clear hi)
                refine hK.out _ _ ⟨(blk_cell BK479.out 0).trans rfl, (blk_cell BK479.out 1).trans rfl, (hc HB hw483_0), (hc HB hw483_1)⟩ (fun hHeld => ?_)
                clear hK K
                refine nm 22 ?_
                refine pu 6 16 (bl 12 639) ?_
                refine pu 7 23 (bl 12 767) ?_
                refine pu 8 24 (bl 12 1023) ?_
                exact norm_ (by simp only [putAll, Act.put, List.setIfInBounds_toArray, List.set_cons_zero, List.set_cons_succ]) (hCont (gb490) _ ⟨hHeld, (by (with_reducible repeat (first | apply Kd.R_alloc | apply Kd.R_drewN | apply Kd.R_drew)); exact Kd.R_mono HO_5.out (fun _ hk => hk.2)), (bk BK479), (bk BK490), GW490.out, GE490.out, NB479_490.out, NB490_479.out, bq⟩)
            rintro gb490 w40 ⟨hS_, h0_, h1_, h2_, h3_, h4_, h5_, h6_, h7_⟩
            have n0 : Aside0 (Kd.R k52 52 w40 w.heap.size (fun k_ => k_ ≠ gb490) u5 x5_1) := ⟨h0_⟩
            have n1 : Aside0 (w40.heap[gb479]? = some (.cells #[.string a1_0, .slice A1_1 l1_1.length c1_1] 39 (0, 0))) := ⟨h1_⟩
            have n2 : Aside0 (w40.heap[gb490]? = some (.cells #[.string (⟨#[]⟩ : ByteArray), .string (⟨#[]⟩ : ByteArray), .int .i64 0, .int .i64 0, .int .i64 0] 52 (0, 0))) := ⟨h2_⟩
            have n3 : Aside0 (w.heap.size ≤ gb490) := ⟨h3_⟩
            have n4 : Aside0 (w.heap.size ≤ gb490) := ⟨h4_⟩
            have n5 : Aside0 (gb479 ≠ gb490) := ⟨h5_⟩
            have n6 : Aside0 (gb490 ≠ gb479) := ⟨h6_⟩
            have n7 : Aside0 (Below w.heap.size w w40) := ⟨h7_⟩
            clear HO_5 BK479 HB
            clear h0_ h1_ h2_ h3_ h4_ h5_ h6_ h7_
            have HO_5 := n0
            have BK479 := n1
            have BK490 := n2
            have GW490 := n3
            have GE490 := n4
            have NB479_490 := n5
            have NB490_479 := n6
            have HB := n7
            clear n0 n1 n2 n3 n4 n5 n6 n7
            have hHeld : w40.cell? ⟨gb479, 0, none⟩ = some (.string a1_0) ∧ w40.cell? ⟨gb479, 1, none⟩ = some (.slice A1_1 l1_1.length c1_1) ∧ w40.cell? (ad483.add ((x6_1).toNat * 2)) = some (.string ((rd_T39 l0 x6_1).f0)) ∧ w40.cell? ⟨(ad483.add ((x6_1).toNat * 2)).block, (ad483.add ((x6_1).toNat * 2)).off + 1, none⟩ = some (.slice A483_1 ((rd_T39 l0 x6_1).f1).length c483_1) := hS_
            refine norm_ (a' := ?_) ?_ ?_
            rotate_left
            · simp only [putAll, Act.put, List.setIfInBounds_toArray, List.set_cons_zero, List.set_cons_succ]
              rfl
            refine one_ (i := 10) (N := none) #[true, true, true, true, true, true, true, true, true, true, true, false] rfl rfl (one_of HT_.out (by kernel_rfl)) (by decide) (fun K hK => ?_)
            have hs41 : w40.cell? ⟨gb490, 0, none⟩ = some (.string (⟨#[]⟩ : ByteArray)) := (blk_cell BK490.out 0).trans rfl
            have hfs41 := blk_frozen BK490.out 0
            have hns41_0 := NB479_490.out
            have hms41_0 := NB490_479.out
            have hs42 : w40.cell? ⟨gb490, 1, none⟩ = some (.string (⟨#[]⟩ : ByteArray)) := (blk_cell BK490.out 1).trans rfl
            have hfs42 := blk_frozen BK490.out 1
            have hns42_0 := NB479_490.out
            have hms42_0 := NB490_479.out
            have hs43 : w40.cell? ⟨gb490, 2, none⟩ = some (.int .i64 0) := (blk_cell BK490.out 2).trans rfl
            have hfs43 := blk_frozen BK490.out 2
            have hns43_0 := NB479_490.out
            have hms43_0 := NB490_479.out
            have hs44 : w40.cell? ⟨gb490, 3, none⟩ = some (.int .i64 0) := (blk_cell BK490.out 3).trans rfl
            have hfs44 := blk_frozen BK490.out 3
            have hns44_0 := NB479_490.out
            have hms44_0 := NB490_479.out
            have hs45 : w40.cell? ⟨gb490, 4, none⟩ = some (.int .i64 0) := (blk_cell BK490.out 4).trans rfl
            have hfs45 := blk_frozen BK490.out 4
            have hns45_0 := NB479_490.out
            have hms45_0 := NB490_479.out
            refine skip_ (w1 := ?_) (by rfl) rfl ?_ ?_
            rotate_left
            · go_simp
              rfl
            refine hK.out _ _ ⟨((cell_far (p := ⟨gb490, _, none⟩) NB479_490.out _).trans (((cell_far (p := ⟨gb490, _, none⟩) NB479_490.out _).trans (((cell_far (p := ⟨gb490, _, none⟩) NB479_490.out _).trans (((cell_far (p := ⟨gb490, _, none⟩) NB479_490.out _).trans (((cell_far (p := ⟨gb490, _, none⟩) NB479_490.out _).trans (hHeld.1)))))))))), ((cell_far (p := ⟨gb490, _, none⟩) NB479_490.out _).trans (((cell_far (p := ⟨gb490, _, none⟩) NB479_490.out _).trans (((cell_far (p := ⟨gb490, _, none⟩) NB479_490.out _).trans (((cell_far (p := ⟨gb490, _, none⟩) NB479_490.out _).trans (((cell_far (p := ⟨gb490, _, none⟩) NB479_490.out _).trans (hHeld.2.1)))))))))), ((cell_far (p := ⟨gb490, _, none⟩) (by first | exact Nat.ne_of_lt (Nat.lt_of_lt_of_le (by have := World.block_lt_of_cell? _ _ hw483_0; first | rwa [add_block] at this | exact this) GW490.out) | (rw [add_block]; exact Nat.ne_of_lt (Nat.lt_of_lt_of_le (by have := World.block_lt_of_cell? _ _ hw483_0; first | rwa [add_block] at this | exact this) GW490.out)) | (show (Addr.add _ _).block ≠ _; rw [add_block]; exact Nat.ne_of_lt (Nat.lt_of_lt_of_le (by have := World.block_lt_of_cell? _ _ hw483_0; first | rwa [add_block] at this | exact this) GW490.out)) | (dsimp only; exact Nat.ne_of_lt (Nat.lt_of_lt_of_le (by have := World.block_lt_of_cell? _ _ hw483_0; first | rwa [add_block] at this | exact this) GW490.out))) _).trans (((cell_far (p := ⟨gb490, _, none⟩) (by first | exact Nat.ne_of_lt (Nat.lt_of_lt_of_le (by have := World.block_lt_of_cell? _ _ hw483_0; first | rwa [add_block] at this | exact this) GW490.out) | (rw [add_block]; exact Nat.ne_of_lt (Nat.lt_of_lt_of_le (by have := World.block_lt_of_cell? _ _ hw483_0; first | rwa [add_block] at this | exact this) GW490.out)) | (show (Addr.add _ _).block ≠ _; rw [add_block]; exact Nat.ne_of_lt (Nat.lt_of_lt_of_le (by have := World.block_lt_of_cell? _ _ hw483_0; first | rwa [add_block] at this | exact this) GW490.out)) | (dsimp only; exact Nat.ne_of_lt (Nat.lt_of_lt_of_le (by have := World.block_lt_of_cell? _ _ hw483_0; first | rwa [add_block] at this | exact this) GW490.out))) _).trans (((cell_far (p := ⟨gb490, _, none⟩) (by first | exact Nat.ne_of_lt (Nat.lt_of_lt_of_le (by have := World.block_lt_of_cell? _ _ hw483_0; first | rwa [add_block] at this | exact this) GW490.out) | (rw [add_block]; exact Nat.ne_of_lt (Nat.lt_of_lt_of_le (by have := World.block_lt_of_cell? _ _ hw483_0; first | rwa [add_block] at this | exact this) GW490.out)) | (show (Addr.add _ _).block ≠ _; rw [add_block]; exact Nat.ne_of_lt (Nat.lt_of_lt_of_le (by have := World.block_lt_of_cell? _ _ hw483_0; first | rwa [add_block] at this | exact this) GW490.out)) | (dsimp only; exact Nat.ne_of_lt (Nat.lt_of_lt_of_le (by have := World.block_lt_of_cell? _ _ hw483_0; first | rwa [add_block] at this | exact this) GW490.out))) _).trans (((cell_far (p := ⟨gb490, _, none⟩) (by first | exact Nat.ne_of_lt (Nat.lt_of_lt_of_le (by have := World.block_lt_of_cell? _ _ hw483_0; first | rwa [add_block] at this | exact this) GW490.out) | (rw [add_block]; exact Nat.ne_of_lt (Nat.lt_of_lt_of_le (by have := World.block_lt_of_cell? _ _ hw483_0; first | rwa [add_block] at this | exact this) GW490.out)) | (show (Addr.add _ _).block ≠ _; rw [add_block]; exact Nat.ne_of_lt (Nat.lt_of_lt_of_le (by have := World.block_lt_of_cell? _ _ hw483_0; first | rwa [add_block] at this | exact this) GW490.out)) | (dsimp only; exact Nat.ne_of_lt (Nat.lt_of_lt_of_le (by have := World.block_lt_of_cell? _ _ hw483_0; first | rwa [add_block] at this | exact this) GW490.out))) _).trans (((cell_far (p := ⟨gb490, _, none⟩) (by first | exact Nat.ne_of_lt (Nat.lt_of_lt_of_le (by have := World.block_lt_of_cell? _ _ hw483_0; first | rwa [add_block] at this | exact this) GW490.out) | (rw [add_block]; exact Nat.ne_of_lt (Nat.lt_of_lt_of_le (by have := World.block_lt_of_cell? _ _ hw483_0; first | rwa [add_block] at this | exact this) GW490.out)) | (show (Addr.add _ _).block ≠ _; rw [add_block]; exact Nat.ne_of_lt (Nat.lt_of_lt_of_le (by have := World.block_lt_of_cell? _ _ hw483_0; first | rwa [add_block] at this | exact this) GW490.out)) | (dsimp only; exact Nat.ne_of_lt (Nat.lt_of_lt_of_le (by have := World.block_lt_of_cell? _ _ hw483_0; first | rwa [add_block] at this | exact this) GW490.out))) _).trans (hHeld.2.2.1)))))))))), ((cell_far (p := ⟨gb490, _, none⟩) (by first | exact Nat.ne_of_lt (Nat.lt_of_lt_of_le (by have := World.block_lt_of_cell? _ _ hw483_1; first | rwa [add_block] at this | exact this) GW490.out) | (rw [add_block]; exact Nat.ne_of_lt (Nat.lt_of_lt_of_le (by have := World.block_lt_of_cell? _ _ hw483_1; first | rwa [add_block] at this | exact this) GW490.out)) | (show (Addr.add _ _).block ≠ _; rw [add_block]; exact Nat.ne_of_lt (Nat.lt_of_lt_of_le (by have := World.block_lt_of_cell? _ _ hw483_1; first | rwa [add_block] at this | exact this) GW490.out)) | (dsimp only; exact Nat.ne_of_lt (Nat.lt_of_lt_of_le (by have := World.block_lt_of_cell? _ _ hw483_1; first | rwa [add_block] at this | exact this) GW490.out))) _).trans (((cell_far (p := ⟨gb490, _, none⟩) (by first | exact Nat.ne_of_lt (Nat.lt_of_lt_of_le (by have := World.block_lt_of_cell? _ _ hw483_1; first | rwa [add_block] at this | exact this) GW490.out) | (rw [add_block]; exact Nat.ne_of_lt (Nat.lt_of_lt_of_le (by have := World.block_lt_of_cell? _ _ hw483_1; first | rwa [add_block] at this | exact this) GW490.out)) | (show (Addr.add _ _).block ≠ _; rw [add_block]; exact Nat.ne_of_lt (Nat.lt_of_lt_of_le (by have := World.block_lt_of_cell? _ _ hw483_1; first | rwa [add_block] at this | exact this) GW490.out)) | (dsimp only; exact Nat.ne_of_lt (Nat.lt_of_lt_of_le (by have := World.block_lt_of_cell? _ _ hw483_1; first | rwa [add_block] at this | exact this) GW490.out))) _).trans (((cell_far (p := ⟨gb490, _, none⟩) (by first | exact Nat.ne_of_lt (Nat.lt_of_lt_of_le (by have := World.block_lt_of_cell? _ _ hw483_1; first | rwa [add_block] at this | exact this) GW490.out) | (rw [add_block]; exact Nat.ne_of_lt (Nat.lt_of_lt_of_le (by have := World.block_lt_of_cell? _ _ hw483_1; first | rwa [add_block] at this | exact this) GW490.out)) | (show (Addr.add _ _).block ≠ _; rw [add_block]; exact Nat.ne_of_lt (Nat.lt_of_lt_of_le (by have := World.block_lt_of_cell? _ _ hw483_1; first | rwa [add_block] at this | exact this) GW490.out)) | (dsimp only; exact Nat.ne_of_lt (Nat.lt_of_lt_of_le (by have := World.block_lt_of_cell? _ _ hw483_1; first | rwa [add_block] at this | exact this) GW490.out))) _).trans (((cell_far (p := ⟨gb490, _, none⟩) (by first | exact Nat.ne_of_lt (Nat.lt_of_lt_of_le (by have := World.block_lt_of_cell? _ _ hw483_1; first | rwa [add_block] at this | exact this) GW490.out) | (rw [add_block]; exact Nat.ne_of_lt (Nat.lt_of_lt_of_le (by have := World.block_lt_of_cell? _ _ hw483_1; first | rwa [add_block] at this | exact this) GW490.out)) | (show (Addr.add _ _).block ≠ _; rw [add_block]; exact Nat.ne_of_lt (Nat.lt_of_lt_of_le (by have := World.block_lt_of_cell? _ _ hw483_1; first | rwa [add_block] at this | exact this) GW490.out)) | (dsimp only; exact Nat.ne_of_lt (Nat.lt_of_lt_of_le (by have := World.block_lt_of_cell? _ _ hw483_1; first | rwa [add_block] at this | exact this) GW490.out))) _).trans (((cell_far (p := ⟨gb490, _, none⟩) (by first | exact Nat.ne_of_lt (Nat.lt_of_lt_of_le (by have := World.block_lt_of_cell? _ _ hw483_1; first | rwa [add_block] at this | exact this) GW490.out) | (rw [add_block]; exact Nat.ne_of_lt (Nat.lt_of_lt_of_le (by have := World.block_lt_of_cell? _ _ hw483_1; first | rwa [add_block] at this | exact this) GW490.out)) | (show (Addr.add _ _).block ≠ _; rw [add_block]; exact Nat.ne_of_lt (Nat.lt_of_lt_of_le (by have := World.block_lt_of_cell? _ _ hw483_1; first | rwa [add_block] at this | exact this) GW490.out)) | (dsimp only; exact Nat.ne_of_lt (Nat.lt_of_lt_of_le (by have := World.block_lt_of_cell? _ _ hw483_1; first | rwa [add_block] at this | exact this) GW490.out))) _).trans (hHeld.2.2.2))))))))))⟩ (fun hHeld => ?_)
            clear hK K
            refine pu 11 8 (bl 12 4095) ?_
            refine done_ (done_of HT_.out (by kernel_rfl)) ?_
            try go_wp2
            have n0 : Aside0 (Kd.R k52 52 (((((w40.setCell ⟨gb490, 0, none⟩ (.string t484)).setCell ⟨gb490, 1, none⟩ (.string t485)).setCell ⟨gb490, 2, none⟩ (.int .i64 t486)).setCell ⟨gb490, 3, none⟩ (.int .i64 t487)).setCell ⟨gb490, 4, none⟩ (.int .i64 t488)) w.heap.size (fun k_ => k_ ≠ gb490) u5 x5_1) := ⟨by (with_reducible repeat (first | apply Kd.R_alloc | apply Kd.R_drewN | apply Kd.R_drew)); exact Kd.R_mono (rf (Kd.R_mono HO_5.out (fun k_ hk => (⟨hk, hk⟩ : _ ∧ k_ ≠ gb490)))) (fun _ hk => hk.1)⟩
            have n1 : Aside0 ((((((w40.setCell ⟨gb490, 0, none⟩ (.string t484)).setCell ⟨gb490, 1, none⟩ (.string t485)).setCell ⟨gb490, 2, none⟩ (.int .i64 t486)).setCell ⟨gb490, 3, none⟩ (.int .i64 t487)).setCell ⟨gb490, 4, none⟩ (.int .i64 t488)).heap[gb479]? = some (.cells #[.string a1_0, .slice A1_1 l1_1.length c1_1] 39 (0, 0))) := ⟨bk BK479⟩
            have n2 : Aside0 ((((((w40.setCell ⟨gb490, 0, none⟩ (.string t484)).setCell ⟨gb490, 1, none⟩ (.string t485)).setCell ⟨gb490, 2, none⟩ (.int .i64 t486)).setCell ⟨gb490, 3, none⟩ (.int .i64 t487)).setCell ⟨gb490, 4, none⟩ (.int .i64 t488)).heap[gb490]? = some (.cells #[.string t484, .string t485, .int .i64 t486, .int .i64 t487, .int .i64 t488] 52 (0, 0))) := ⟨bp BK490⟩
            have n3 : Aside0 (Below w.heap.size w (((((w40.setCell ⟨gb490, 0, none⟩ (.string t484)).setCell ⟨gb490, 1, none⟩ (.string t485)).setCell ⟨gb490, 2, none⟩ (.int .i64 t486)).setCell ⟨gb490, 3, none⟩ (.int .i64 t487)).setCell ⟨gb490, 4, none⟩ (.int .i64 t488))) := ⟨bq⟩
            (try clear HO_5)
            (try clear BK479)
            (try clear BK490)
            (try clear HB)
            generalize (((((w40.setCell ⟨gb490, 0, none⟩ (.string t484)).setCell ⟨gb490, 1, none⟩ (.string t485)).setCell ⟨gb490, 2, none⟩ (.int .i64 t486)).setCell ⟨gb490, 3, none⟩ (.int .i64 t487)).setCell ⟨gb490, 4, none⟩ (.int .i64 t488)) = w46 at n0 n1 n2 n3 ⊢
            have HO_5 := n0
            have BK479 := n1
            have BK490 := n2
            have HB := n3
            clear n0 n1 n2 n3
            have n0 := ra (Kd.R_drew HO_5.out)
            have n1 := ra (blk_drew BK479.out)
            have n2 := ra (blk_drew BK490.out)
            have n3 := ra (below_drew1 HB.out)
            clear HO_5 BK479 BK490 HB
            have HO_5 := n0
            have BK479 := n1
            have BK490 := n2
            have HB := n3
            clear n0 n1 n2 n3
            refine start_ (n := 11) (S := fun w' => True) (ds := []) (bl 11 0) (by kernel_rfl) rfl rfl trivial (fun hHeld => ?_); refine with_tabW spec_l4With.tab6 spec_l4With.bits6 (fun HT_ HW_ => ?_)
            generalize w46.drew = w47 at HO_5 BK479 BK490 HB hHeld ⊢
            refine pu 0 25 (bl 11 1) ?_
            refine pu 1 26 (bl 11 3) ?_
            refine pv 2 27 (bl 11 7) ?_
            refine pv 3 28 (bl 11 15) ?_
            refine pv 4 29 (bl 11 31) ?_
            refine pv 5 30 (bl 11 63) ?_
            refine pv 6 31 (bl 11 127) ?_
            refine pv 7 32 (bl 11 255) ?_
            refine pv 8 33 (bl 11 511) ?_
            refine pv 9 34 (bl 11 1023) ?_
            refine pu 10 35 (bl 11 2047) ?_
            refine done_ (done_of HT_.out (by kernel_rfl)) ?_
            try go_wp2
            go_roundg k1
            case measure => have := HK1.out; omega
            case rel => exact ⟨(x5_1), (wrap64 (x6_1 + 1)), rs, H', ⟨by have := HK1.out; omega⟩, ⟨by (with_reducible repeat (first | apply Kd.R_alloc | apply Kd.R_drewN | apply Kd.R_drew)); exact Kd.R_mono HO_5.out (fun _ hk => trivial)⟩, ⟨bk BK479⟩, ⟨bq⟩⟩
        · rw [if_neg c7] at H
          exact absurd H (by simp)
      · rw [if_neg c6] at H
        have c6b0 : decide (x6_1 < (l0.length : Int)) = false := decide_eq_false c6
        clear c6
        obtain rfl := Option.some.inj H
        go_wp2
        go_ret
        exact ⟨_, re, rq HO_5, bq⟩
set_option maxHeartbeats 8000000 in
set_option maxRecDepth 100000 in
theorem impl_ProbeWith.calls (k : Nat) (A0 : Option Addr) (c0 : Nat) (l0 : List (S39)) (a1_0 : ByteArray) (A1_1 : Option Addr) (c1_1 : Nat) (l1_1 : List (S26)) (r : List (S52)) (w : World) (hr0 : Kd.C k39 w A0 l0.length l0) (hc0 : l0.length ≤ c0) (hr1_1 : Kd.C k26 w A1_1 l1_1.length l1_1) (hc1_1 : l1_1.length ≤ c1_1) (h : impl_ProbeWith.f k l0 a1_0 l1_1 = some r) :
    Calls Try.prog 62 #[.slice A0 l0.length c0, .agg #[.string a1_0, .slice A1_1 l1_1.length c1_1]] w fun e w' => ∃ v0_ : Value, e = .returned (v0_) ∧ Kd.R k52 52 w' w.heap.size (fun _ => True) v0_ r ∧ Below w.heap.size w w' := by
  have hu39 := Try.underlying39
  have hu52 := Try.underlying52
  have HR0 := Aside0.mk hr0
  have HC0 := Aside0.mk hc0
  clear hr0 hc0
  have HR1_1 := Aside0.mk hr1_1
  have HC1_1 := Aside0.mk hc1_1
  clear hr1_1 hc1_1
  have HB := ra (Below.refl w.heap.size w)
  have H : ((impl_ProbeSkyOk.f k l0).bind fun t502 => (if t502 = true then ((impl_ProbeTubeOk.f k a1_0 l1_1).bind fun t503 => (impl_ProbeWith.j0 k l0 (!t503) a1_0 l1_1)) else (impl_ProbeWith.j0 k l0 true a1_0 l1_1))) = some r := h
  clear h
  have HC3 := Aside0.mk H
  clear H
  go_enter Try.func62, Try.ntmps62
  go_upto_region 1 with (first | ((with_reducible refine gate_dst (N := 3) rfl ?_); refine be 3 #[.string a1_0, .slice A1_1 l1_1.length c1_1] 39 ?_; intro gb501 hg w4 hbox hb; have n0 := bs hb; have n1 := ra (hbox); have n2 := bz (w0 := w) hg; have n3 := bz (w0 := w) hg; clear HB; have HB := n0; have BK501 := n1; have GW501 := n2; have GE501 := n3; clear n0 n1 n2 n3; clear hb hbox hg))
  (try simp only [Act.put, List.setIfInBounds_toArray, List.set_cons_zero, List.set_cons_succ])
  go_cut [17] (fun v17 wc => ∃ (kq : Nat) (x17_2 : Bool), v17 = .bool x17_2 ∧ Aside0 (impl_ProbeWith.j0 kq l0 x17_2 a1_0 l1_1 = some r) ∧ Aside0 (kq ≤ k) ∧ Aside0 (wc.heap[gb501]? = some (.cells #[.string a1_0, (.slice A1_1 l1_1.length c1_1)] 39 (0, 0))) ∧ Aside0 (Below w.heap.size w wc))
  case first =>
    have H := HC3.out
    clear HC3
    obtain ⟨t502, A5, H⟩ := bo H
    by_cases c6 : t502 = true
    · subst c6
      replace H := it H rfl
      obtain ⟨t503, A7, H⟩ := bo H
      have H' := Aside0.mk H
      clear H
      go_wp2_with (first | ((with_reducible refine gate_callee (f := 30) rfl ?_); refine gl (some 11) Try.func30 #[.slice A0 l0.length c0] ?_; (with_reducible refine (impl_ProbeSkyOk.calls k _ _ l0 true _ ?side1 ?side2 A5.out).mono ?_); (case side1 => exact sc HR0); (case side2 => exact HC0.out); rintro e w8 ⟨rfl, hb⟩; refine ⟨_, rfl, ?_⟩; have n0 := bb (bk BK501) hb; have n1 := bs hb; clear BK501 HB; have BK501 := n0; have HB := n1; clear n0 n1; (try clear hb); (try clear hb2); (try clear hk); (try clear hi); obtain ⟨hcz9_0, hcz9_1, hfz9_0, hfz9_1⟩ := zc2 BK501) | (go_at_call 23; (with_reducible refine (impl_ProbeTubeOk.calls k a1_0 _ _ l1_1 t503 _ ?side1 ?side2 A7.out).mono ?_); (case side1 => exact sc HR1_1); (case side2 => exact HC1_1.out); rintro e w10 ⟨rfl, hb⟩; have n0 := bb (bk BK501) hb; have n1 := bs hb; clear BK501 HB; have BK501 := n0; have HB := n1; clear n0 n1; (try clear hb); (try clear hb2); (try clear hk); (try clear hi)))
      go_meet
      case rel => exact ⟨_, (!t503), rs, H', ⟨by first | omega | exact Nat.le_refl _⟩, ⟨bk BK501⟩, ⟨bq⟩⟩
    · replace c6 := Bool.eq_false_iff.mpr c6
      subst c6
      have H1 : (impl_ProbeWith.j0 k l0 true a1_0 l1_1) = some r := by rw [if_neg (show ¬ (false = true) by decide)] at H; exact H
      clear H
      have H := H1
      clear H1
      have H' := Aside0.mk H
      clear H
      go_wp2_with (first | ((with_reducible refine gate_callee (f := 30) rfl ?_); refine gl (some 11) Try.func30 #[.slice A0 l0.length c0] ?_; (with_reducible refine (impl_ProbeSkyOk.calls k _ _ l0 false _ ?side1 ?side2 A5.out).mono ?_); (case side1 => exact sc HR0); (case side2 => exact HC0.out); rintro e w11 ⟨rfl, hb⟩; refine ⟨_, rfl, ?_⟩; have n0 := bb (bk BK501) hb; have n1 := bs hb; clear BK501 HB; have BK501 := n0; have HB := n1; clear n0 n1; (try clear hb); (try clear hb2); (try clear hk); (try clear hi)))
      go_meet
      case rel => exact ⟨_, (true), rs, H', ⟨by first | omega | exact Nat.le_refl _⟩, ⟨bk BK501⟩, ⟨bq⟩⟩
  case rest =>
    clear HC3
    try clear c6
    try clear hcz9_0
    try clear hcz9_1
    try clear hfz9_0
    try clear hfz9_1
    obtain ⟨kq, x17_2, rfl, HA, HJ2, BK501, HB⟩ := hcut
    cases kq with
    | zero => exact absurd HA.out (by simp [impl_ProbeWith.j0])
    | succ kj2 =>
      have H := HA.out
      clear HA
      simp only [impl_ProbeWith.j0] at H
      by_cases c12 : x17_2 = true
      · subst c12
        replace H := it H rfl
        obtain rfl := Option.some.inj H
        go_wp2
        go_ret
        exact ⟨_, re, by first | exact Kd.R_nil _ _ _ _ _ | exact Kd.N_nil _ _ _ _ _ | exact Kd.V_nil _ _ _ _ _ | exact Kd.Q_nil _ _ _ _ _ | exact Kd.S_nil _ _ _ _ _, bq⟩
      · replace c12 := Bool.eq_false_iff.mpr c12
        subst c12
        have H1 : (impl_ProbeWith.l0 kj2 (([] : List (S52))) l0 (l0.length : Int) 0 a1_0 l1_1) = some r := by rw [if_neg (show ¬ (false = true) by decide)] at H; exact H
        clear H
        have H := H1
        clear H1
        obtain ⟨y504, hy_⟩ : ∃ y_ : List (S52), y_ = (([] : List (S52))) := ⟨_, rfl⟩
        replace H : (impl_ProbeWith.l0 kj2 y504 l0 (l0.length : Int) 0 a1_0 l1_1) = some r := yh
        have Ny504 := ra hy_
        clear hy_
        have H' := Aside0.mk H
        clear H
        go_wp2_with (first | ((with_reducible refine gate_dst (N := 18) rfl ?_); refine Kd.R_lit k52 _ 52 ?hg (N := 18) ?hd (xs := ([] : List (S52))) (inner := []) (ok := fun _ => True) (okp := fun _ => True) ?hr ?hp (fun _ hk => hk) trivial (Below.refl _ _) (Nat.le_refl _) (by simp) ?_; (case hd => rfl); (case hg => rfl); (case hr => first | (go_simp; done) | (go_simp; rfl)); (case hp => exact (Reps.none _ _)); intro v505 w13 ho14 hb hg_ hnew_; clear hg_ hnew_; (first | rw [← Ny504.out] at ho14 | (simp only [Int.reduceToNat] at ho14; rw [← Ny504.out] at ho14)); have n0 := ra (Kd.R_lower ho14 (below_size bq)); have n1 := bb (bk BK501) hb; have n2 := bs hb; clear BK501 HB; have HO506 := n0; have BK501 := n1; have HB := n2; clear n0 n1 n2; clear hb ho14))
        go_loopg [5, 21] kj2 (fun kq v5 v21 w' => ∃ (x5_2 : List (S52)) (x21_2 : Int), v21 = .int .i64 x21_2 ∧ Aside0 (impl_ProbeWith.l0 kq x5_2 l0 (l0.length : Int) x21_2 a1_0 l1_1 = some r) ∧ Aside0 (kq ≤ kj2) ∧ Aside0 (Kd.R k52 52 w' w.heap.size (fun _ => True) v5 x5_2) ∧ Aside0 (w'.heap[gb501]? = some (.cells #[.string a1_0, (.slice A1_1 l1_1.length c1_1)] 39 (0, 0))) ∧ Aside0 (Below w.heap.size w w'))
        case atStart => exact ⟨(y504), (0), rs, H', ⟨Nat.le_refl _⟩, ⟨rq HO506⟩, ⟨bk BK501⟩, ⟨bq⟩⟩
        case round =>
          clear H'
          try clear c6
          try clear c12
          try clear hcz9_0
          try clear hcz9_1
          try clear hfz9_0
          try clear hfz9_1
          obtain ⟨x5_2, x21_2, rfl, HA, HK2, HO_5, BK501, HB⟩ := hrel
          cases gk with
          | zero => exact absurd HA.out (by simp [impl_ProbeWith.l0])
          | succ k2 =>
            have H := HA.out
            clear HA
            simp only [impl_ProbeWith.l0] at H
            by_cases c15 : x21_2 < (l0.length : Int)
            · rw [if_pos c15] at H
              have c15b0 : decide (x21_2 < (l0.length : Int)) = true := decide_eq_true c15
              clear c15
              by_cases c16 : 0 ≤ x21_2
              · rw [if_pos c16] at H
                have c16b0 : decide (0 ≤ x21_2) = true := decide_eq_true c16
                clear c16
                by_cases c17 : x21_2 < (l0.length : Int)
                · rw [if_pos c17] at H
                  have c17b0 : decide (x21_2 < (l0.length : Int)) = true := decide_eq_true c17
                  clear c17
                  obtain ⟨⟨t509, t510, t511, t512, t513, t514⟩, A18, H⟩ := bo H
                  try dsimp only at H
                  by_cases c19 : t514 = true
                  · subst c19
                    replace H := it H rfl
                    by_cases c20 : ((rd_T39 l0 x21_2).f0).toList = a1_0.toList
                    · rw [if_pos c20] at H
                      have c20b0 : (((rd_T39 l0 x21_2).f0).toList == a1_0.toList) = true := beq_iff_eq.mpr c20
                      have c20b1 : (((rd_T39 l0 x21_2).f0).toList != a1_0.toList) = false := bne_eq_false_iff_eq.mpr c20
                      clear c20
                      have H' := Aside0.mk H
                      clear H
                      have p507 : 0 ≤ (x21_2 : Int) := od
                      have q507 : x21_2 < (l0.length : Int) := od
                      obtain ⟨ad507, A507_1, c507_1, e507, hx507_0, hx507_1, hl507_1, hi507_1⟩ := at_T39 HR0.out x21_2 p507 q507
                      cases e507
                      replace hx507_0 := hc HB hx507_0
                      replace hx507_1 := hc HB hx507_1
                      have HR507_1 := Aside0.mk hi507_1
                      have HC507_1 := Aside0.mk hl507_1
                      clear hi507_1 hl507_1
                      replace p507 := eq_true p507
                      replace q507 := eq_true q507
                      go_wp2_with (first | ((with_reducible refine gate_dst (N := 7) rfl ?_); refine be 7 #[.string (⟨#[]⟩ : ByteArray), .slice none 0 0] 39 ?_; intro gb508 hg w21 hbox hb; have n0 := ra (Kd.R_below (rq HO_5) hb); have n1 := bb (bk BK501) hb; have n2 := bs hb; have n3 := ra (hbox); have n4 := bz (w0 := w) hg; have n5 := bz (w0 := w) hg; have n6 := bn hg (bk BK501); have n7 := bm hg (bk BK501); clear HO_5 BK501 HB; have HO_5 := n0; have BK501 := n1; have HB := n2; have BK508 := n3; have GW508 := n4; have GE508 := n5; have NB501_508 := n6; have NB508_501 := n7; clear n0 n1 n2 n3 n4 n5 n6 n7; clear hb hbox hg; have hnb22 := NB508_501.out; have hnc22 := NB501_508.out; obtain ⟨hcz23_0, hcz23_1, hfz23_0, hfz23_1⟩ := zc2 BK508; obtain ⟨hcz24_0, hcz24_1, hfz24_0, hfz24_1⟩ := zc2 BK501) | ((with_reducible refine gate_callee (f := 33) rfl ?_); refine gl (some 28) Try.func33 #[.agg #[.string a1_0, .slice A1_1 l1_1.length c1_1], .agg #[.string ((rd_T39 l0 x21_2).f0), .slice A507_1 ((rd_T39 l0 x21_2).f1).length c507_1]] ?_; (with_reducible refine (impl_ProbeMeet.calls k2 a1_0 _ _ l1_1 ((rd_T39 l0 x21_2).f0) _ _ ((rd_T39 l0 x21_2).f1) t509 t510 t511 t512 t513 true _ ?side1 ?side2 ?side3 ?side4 A18.out).mono ?_); (case side1 => exact Kd.C_below HR1_1.out bq); (case side2 => exact HC1_1.out); (case side3 => exact Kd.C_below HR507_1.out bq); (case side4 => exact HC507_1.out); rintro e w25 ⟨rfl, hb⟩; refine ⟨_, rfl, ?_⟩; have n0 := ra (Kd.R_below (Kd.R_mono (rf (Kd.R_types HO_5.out BK508.out (by decide))) (fun _ h_ => h_.1)) hb); have n1 := bb (bk BK501) hb; have n2 := bb (o := .cells #[.string ((rd_T39 l0 x21_2).f0), .slice A507_1 ((rd_T39 l0 x21_2).f1).length c507_1] 39 (0, 0)) (bp BK508) hb; have n3 := bs hb; clear HO_5 BK501 BK508 HB; have HO_5 := n0; have BK501 := n1; have BK508 := n2; have HB := n3; clear n0 n1 n2 n3; (try clear hb); (try clear hb2); (try clear hk); (try clear hi)) | ((with_reducible refine gate_dst (N := 8) rfl ?_); refine be 8 #[.string (⟨#[]⟩ : ByteArray), .string (⟨#[]⟩ : ByteArray), .int .i64 0, .int .i64 0, .int .i64 0] 52 ?_; intro gb515 hg w26 hbox hb; have n0 := ra (Kd.R_below (Kd.R_elderB (rq HO_5) gb515 (Nat.le_of_eq hg.symm)) hb); have n1 := bb (bk BK501) hb; have n2 := bb (bk BK508) hb; have n3 := bs hb; have n4 := ra (hbox); have n5 := bz (w0 := w) hg; have n6 := bz (w0 := w) hg; have n7 := bn hg (bk BK501); have n8_ := bm hg (bk BK501); have n9_ := bn hg (bk BK508); have n10_ := bm hg (bk BK508); clear HO_5 BK501 BK508 HB; have HO_5 := n0; have BK501 := n1; have BK508 := n2; have HB := n3; have BK515 := n4; have GW515 := n5; have GE515 := n6; have NB501_515 := n7; have NB515_501 := n8_; have NB508_515 := n9_; have NB515_508 := n10_; clear n0 n1 n2 n3 n4 n5 n6 n7 n8_ n9_ n10_; clear hb hbox hg; have hnb27 := NB515_501.out; have hnc27 := NB501_515.out; have hnb28 := NB515_508.out; have hnc28 := NB508_515.out; obtain ⟨hcz29_0, hcz29_1, hcz29_2, hcz29_3, hcz29_4, hfz29_0, hfz29_1, hfz29_2, hfz29_3, hfz29_4⟩ := zc5 BK515; obtain ⟨hcz30_0, hcz30_1, hfz30_0, hfz30_1⟩ := zc2 BK508; obtain ⟨hcz31_0, hcz31_1, hfz31_0, hfz31_1⟩ := zc2 BK501))
                      go_roundg k2
                      case measure => have := HJ2.out; have := HK2.out; omega
                      case rel => exact ⟨(x5_2), (wrap64 (x21_2 + 1)), rs, H', ⟨by have := HJ2.out; have := HK2.out; omega⟩, ⟨by (with_reducible repeat (first | apply Kd.R_alloc | apply Kd.R_drewN | apply Kd.R_drew)); exact Kd.R_mono (rf (Kd.R_mono HO_5.out (fun k_ hk => (⟨hk, hk.2⟩ : _ ∧ k_ ≠ gb515)))) (fun _ hk => trivial)⟩, ⟨bk BK501⟩, ⟨bq⟩⟩
                    · rw [if_neg c20] at H
                      have c20b0 : (((rd_T39 l0 x21_2).f0).toList == a1_0.toList) = false := beq_eq_false_iff_ne.mpr c20
                      have c20b1 : (((rd_T39 l0 x21_2).f0).toList != a1_0.toList) = true := bne_iff_ne.mpr c20
                      by_cases c32 : x5_2.length < 2513169434916
                      · rw [if_pos c32] at H
                        have LMc32 := Aside0.mk c32
                        clear c32
                        obtain ⟨y516, hy_⟩ : ∃ y_ : List (S52), y_ = (x5_2 ++ [(⟨t509, t510, t511, t512, t513⟩ : S52)]) := ⟨_, rfl⟩
                        replace H : (impl_ProbeWith.l0 k2 y516 l0 (l0.length : Int) (wrap64 (x21_2 + 1)) a1_0 l1_1) = some r := yh
                        have Ny516 := ra hy_
                        clear hy_
                        have H' := Aside0.mk H
                        clear H
                        have p507 : 0 ≤ (x21_2 : Int) := od
                        have q507 : x21_2 < (l0.length : Int) := od
                        obtain ⟨ad507, A507_1, c507_1, e507, hx507_0, hx507_1, hl507_1, hi507_1⟩ := at_T39 HR0.out x21_2 p507 q507
                        cases e507
                        replace hx507_0 := hc HB hx507_0
                        replace hx507_1 := hc HB hx507_1
                        have HR507_1 := Aside0.mk hi507_1
                        have HC507_1 := Aside0.mk hl507_1
                        clear hi507_1 hl507_1
                        replace p507 := eq_true p507
                        replace q507 := eq_true q507
                        go_wp2_with (first | ((with_reducible refine gate_dst (N := 7) rfl ?_); refine be 7 #[.string (⟨#[]⟩ : ByteArray), .slice none 0 0] 39 ?_; intro gb508 hg w33 hbox hb; have n0 := ra (Kd.R_below (rq HO_5) hb); have n1 := bb (bk BK501) hb; have n2 := bs hb; have n3 := ra (hbox); have n4 := bz (w0 := w) hg; have n5 := bz (w0 := w) hg; have n6 := bn hg (bk BK501); have n7 := bm hg (bk BK501); clear HO_5 BK501 HB; have HO_5 := n0; have BK501 := n1; have HB := n2; have BK508 := n3; have GW508 := n4; have GE508 := n5; have NB501_508 := n6; have NB508_501 := n7; clear n0 n1 n2 n3 n4 n5 n6 n7; clear hb hbox hg; have hnb34 := NB508_501.out; have hnc34 := NB501_508.out; obtain ⟨hcz35_0, hcz35_1, hfz35_0, hfz35_1⟩ := zc2 BK508; obtain ⟨hcz36_0, hcz36_1, hfz36_0, hfz36_1⟩ := zc2 BK501) | ((with_reducible refine gate_callee (f := 33) rfl ?_); refine gl (some 28) Try.func33 #[.agg #[.string a1_0, .slice A1_1 l1_1.length c1_1], .agg #[.string ((rd_T39 l0 x21_2).f0), .slice A507_1 ((rd_T39 l0 x21_2).f1).length c507_1]] ?_; (with_reducible refine (impl_ProbeMeet.calls k2 a1_0 _ _ l1_1 ((rd_T39 l0 x21_2).f0) _ _ ((rd_T39 l0 x21_2).f1) t509 t510 t511 t512 t513 true _ ?side1 ?side2 ?side3 ?side4 A18.out).mono ?_); (case side1 => exact Kd.C_below HR1_1.out bq); (case side2 => exact HC1_1.out); (case side3 => exact Kd.C_below HR507_1.out bq); (case side4 => exact HC507_1.out); rintro e w37 ⟨rfl, hb⟩; refine ⟨_, rfl, ?_⟩; have n0 := ra (Kd.R_below (Kd.R_mono (rf (Kd.R_types HO_5.out BK508.out (by decide))) (fun _ h_ => h_.1)) hb); have n1 := bb (bk BK501) hb; have n2 := bb (o := .cells #[.string ((rd_T39 l0 x21_2).f0), .slice A507_1 ((rd_T39 l0 x21_2).f1).length c507_1] 39 (0, 0)) (bp BK508) hb; have n3 := bs hb; clear HO_5 BK501 BK508 HB; have HO_5 := n0; have BK501 := n1; have BK508 := n2; have HB := n3; clear n0 n1 n2 n3; (try clear hb); (try clear hb2); (try clear hk); (try clear hi)) | ((with_reducible refine gate_dst (N := 8) rfl ?_); refine be 8 #[.string (⟨#[]⟩ : ByteArray), .string (⟨#[]⟩ : ByteArray), .int .i64 0, .int .i64 0, .int .i64 0] 52 ?_; intro gb515 hg w38 hbox hb; have n0 := ra (Kd.R_below (Kd.R_elderB (rq HO_5) gb515 (Nat.le_of_eq hg.symm)) hb); have n1 := bb (bk BK501) hb; have n2 := bb (bk BK508) hb; have n3 := bs hb; have n4 := ra (hbox); have n5 := bz (w0 := w) hg; have n6 := bz (w0 := w) hg; have n7 := bn hg (bk BK501); have n8_ := bm hg (bk BK501); have n9_ := bn hg (bk BK508); have n10_ := bm hg (bk BK508); clear HO_5 BK501 BK508 HB; have HO_5 := n0; have BK501 := n1; have BK508 := n2; have HB := n3; have BK515 := n4; have GW515 := n5; have GE515 := n6; have NB501_515 := n7; have NB515_501 := n8_; have NB508_515 := n9_; have NB515_508 := n10_; clear n0 n1 n2 n3 n4 n5 n6 n7 n8_ n9_ n10_; clear hb hbox hg; have hnb39 := NB515_501.out; have hnc39 := NB501_515.out; have hnb40 := NB515_508.out; have hnc40 := NB508_515.out; obtain ⟨hcz41_0, hcz41_1, hcz41_2, hcz41_3, hcz41_4, hfz41_0, hfz41_1, hfz41_2, hfz41_3, hfz41_4⟩ := zc5 BK515; obtain ⟨hcz42_0, hcz42_1, hfz42_0, hfz42_1⟩ := zc2 BK508; obtain ⟨hcz43_0, hcz43_1, hfz43_0, hfz43_1⟩ := zc2 BK501) | ((with_reducible refine gate_builtin (b := .append) (xs := #[.tmp 39, .tmp 41]) rfl ?_); at_builtin; refine Kd.R_append k52 (w0 := w) w.heap.size rfl (.tmp 39) (.tmp 41) 79 52 (.agg #[(.string ⟨#[]⟩), (.string ⟨#[]⟩), (.int .i64 0), (.int .i64 0), (.int .i64 0)]) 56 rfl Try.underlying79 info52 rfl (by decide) (by omega) u5 x5_2 (⟨t509, t510, t511, t512, t513⟩ : S52) [.string t509, .string t510, .int .i64 t511, .int .i64 t512, .int .i64 t513] (fun k_ => k_ ≠ gb515) (fun _ => False) rfl (by first | (go_simp; done) | (go_simp; rfl)) ?aP (fun _ hk => hk.elim) ?aF ?aO ?aB ?aS ?aL ?_; (case aP => exact k52_mkM _ _ _ (⟨t509, t510, t511, t512, t513⟩ : S52)); (case aB => exact bq); (case aF => exact (fun k_ hk => Kd.freshB (g := gb515) (o := .cells #[.string t509, .string t510, .int .i64 t511, .int .i64 t512, .int .i64 t513] 52 (0, 0)) (bp BK515) k_ hk)); (case aO => exact (by (with_reducible repeat (first | apply Kd.R_alloc | apply Kd.R_drewN | apply Kd.R_drew)); exact Kd.R_mono (rf (Kd.R_mono HO_5.out (fun k_ hk => (⟨hk, hk.2⟩ : _ ∧ k_ ≠ gb515)))) (fun _ hk => hk.1.2))); (case aS => exact (below_size bq)); (case aL => have := LMc32.out; omega); intro v517 w44 ho hb hg hat; rw [← Ny516.out] at ho; have n0 := ra (blk_grown (g := gb501) (o := .cells #[.string a1_0, .slice A1_1 l1_1.length c1_1] 39 (0, 0)) (bk BK501) hg (Kd.R_ne HO_5.out BK501.out (by decide))); have n1 := ra (blk_grown (g := gb508) (o := .cells #[.string ((rd_T39 l0 x21_2).f0), .slice A507_1 ((rd_T39 l0 x21_2).f1).length c507_1] 39 (0, 0)) (bk BK508) hg (Kd.R_ne HO_5.out BK508.out (by decide))); have n2 := ra (blk_grown (g := gb515) (o := .cells #[.string t509, .string t510, .int .i64 t511, .int .i64 t512, .int .i64 t513] 52 (0, 0)) (bp BK515) hg (Kd.R_away HO_5.out (fun _ hk => hk.2))); have n3 := ra (hb); have n4 := ra (ho); clear BK501 BK508 BK515 HB HO_5; have BK501 := n0; have BK508 := n1; have BK515 := n2; have HB := n3; have HO518 := n4; clear n0 n1 n2 n3 n4; clear ho hb hg hat))
                        go_roundg k2
                        case measure => have := HJ2.out; have := HK2.out; omega
                        case rel => exact ⟨(y516), (wrap64 (x21_2 + 1)), rs, H', ⟨by have := HJ2.out; have := HK2.out; omega⟩, ⟨by (with_reducible repeat (first | apply Kd.R_alloc | apply Kd.R_drewN | apply Kd.R_drew)); exact Kd.R_mono HO518.out (fun _ hk => trivial)⟩, ⟨bk BK501⟩, ⟨bq⟩⟩
                      · rw [if_neg c32] at H
                        exact absurd H (by simp)
                  · replace c19 := Bool.eq_false_iff.mpr c19
                    subst c19
                    have H1 : (impl_ProbeWith.l0 k2 x5_2 l0 (l0.length : Int) (wrap64 (x21_2 + 1)) a1_0 l1_1) = some r := by rw [if_neg (show ¬ (false = true) by decide)] at H; exact H
                    clear H
                    have H := H1
                    clear H1
                    have H' := Aside0.mk H
                    clear H
                    have p507 : 0 ≤ (x21_2 : Int) := od
                    have q507 : x21_2 < (l0.length : Int) := od
                    obtain ⟨ad507, A507_1, c507_1, e507, hx507_0, hx507_1, hl507_1, hi507_1⟩ := at_T39 HR0.out x21_2 p507 q507
                    cases e507
                    replace hx507_0 := hc HB hx507_0
                    replace hx507_1 := hc HB hx507_1
                    have HR507_1 := Aside0.mk hi507_1
                    have HC507_1 := Aside0.mk hl507_1
                    clear hi507_1 hl507_1
                    replace p507 := eq_true p507
                    replace q507 := eq_true q507
                    go_wp2_with (first | ((with_reducible refine gate_dst (N := 7) rfl ?_); refine be 7 #[.string (⟨#[]⟩ : ByteArray), .slice none 0 0] 39 ?_; intro gb508 hg w45 hbox hb; have n0 := ra (Kd.R_below (rq HO_5) hb); have n1 := bb (bk BK501) hb; have n2 := bs hb; have n3 := ra (hbox); have n4 := bz (w0 := w) hg; have n5 := bz (w0 := w) hg; have n6 := bn hg (bk BK501); have n7 := bm hg (bk BK501); clear HO_5 BK501 HB; have HO_5 := n0; have BK501 := n1; have HB := n2; have BK508 := n3; have GW508 := n4; have GE508 := n5; have NB501_508 := n6; have NB508_501 := n7; clear n0 n1 n2 n3 n4 n5 n6 n7; clear hb hbox hg; have hnb46 := NB508_501.out; have hnc46 := NB501_508.out; obtain ⟨hcz47_0, hcz47_1, hfz47_0, hfz47_1⟩ := zc2 BK508; obtain ⟨hcz48_0, hcz48_1, hfz48_0, hfz48_1⟩ := zc2 BK501) | ((with_reducible refine gate_callee (f := 33) rfl ?_); refine gl (some 28) Try.func33 #[.agg #[.string a1_0, .slice A1_1 l1_1.length c1_1], .agg #[.string ((rd_T39 l0 x21_2).f0), .slice A507_1 ((rd_T39 l0 x21_2).f1).length c507_1]] ?_; (with_reducible refine (impl_ProbeMeet.calls k2 a1_0 _ _ l1_1 ((rd_T39 l0 x21_2).f0) _ _ ((rd_T39 l0 x21_2).f1) t509 t510 t511 t512 t513 false _ ?side1 ?side2 ?side3 ?side4 A18.out).mono ?_); (case side1 => exact Kd.C_below HR1_1.out bq); (case side2 => exact HC1_1.out); (case side3 => exact Kd.C_below HR507_1.out bq); (case side4 => exact HC507_1.out); rintro e w49 ⟨rfl, hb⟩; refine ⟨_, rfl, ?_⟩; have n0 := ra (Kd.R_below (Kd.R_mono (rf (Kd.R_types HO_5.out BK508.out (by decide))) (fun _ h_ => h_.1)) hb); have n1 := bb (bk BK501) hb; have n2 := bb (o := .cells #[.string ((rd_T39 l0 x21_2).f0), .slice A507_1 ((rd_T39 l0 x21_2).f1).length c507_1] 39 (0, 0)) (bp BK508) hb; have n3 := bs hb; clear HO_5 BK501 BK508 HB; have HO_5 := n0; have BK501 := n1; have BK508 := n2; have HB := n3; clear n0 n1 n2 n3; (try clear hb); (try clear hb2); (try clear hk); (try clear hi)) | ((with_reducible refine gate_dst (N := 8) rfl ?_); refine be 8 #[.string (⟨#[]⟩ : ByteArray), .string (⟨#[]⟩ : ByteArray), .int .i64 0, .int .i64 0, .int .i64 0] 52 ?_; intro gb515 hg w50 hbox hb; have n0 := ra (Kd.R_below (Kd.R_elderB (rq HO_5) gb515 (Nat.le_of_eq hg.symm)) hb); have n1 := bb (bk BK501) hb; have n2 := bb (bk BK508) hb; have n3 := bs hb; have n4 := ra (hbox); have n5 := bz (w0 := w) hg; have n6 := bz (w0 := w) hg; have n7 := bn hg (bk BK501); have n8_ := bm hg (bk BK501); have n9_ := bn hg (bk BK508); have n10_ := bm hg (bk BK508); clear HO_5 BK501 BK508 HB; have HO_5 := n0; have BK501 := n1; have BK508 := n2; have HB := n3; have BK515 := n4; have GW515 := n5; have GE515 := n6; have NB501_515 := n7; have NB515_501 := n8_; have NB508_515 := n9_; have NB515_508 := n10_; clear n0 n1 n2 n3 n4 n5 n6 n7 n8_ n9_ n10_; clear hb hbox hg; have hnb51 := NB515_501.out; have hnc51 := NB501_515.out; have hnb52 := NB515_508.out; have hnc52 := NB508_515.out; obtain ⟨hcz53_0, hcz53_1, hcz53_2, hcz53_3, hcz53_4, hfz53_0, hfz53_1, hfz53_2, hfz53_3, hfz53_4⟩ := zc5 BK515))
                    go_roundg k2
                    case measure => have := HJ2.out; have := HK2.out; omega
                    case rel => exact ⟨(x5_2), (wrap64 (x21_2 + 1)), rs, H', ⟨by have := HJ2.out; have := HK2.out; omega⟩, ⟨by (with_reducible repeat (first | apply Kd.R_alloc | apply Kd.R_drewN | apply Kd.R_drew)); exact Kd.R_mono (rf (Kd.R_mono HO_5.out (fun k_ hk => (⟨hk, hk.2⟩ : _ ∧ k_ ≠ gb515)))) (fun _ hk => trivial)⟩, ⟨bk BK501⟩, ⟨bq⟩⟩
                · rw [if_neg c17] at H
                  exact absurd H (by simp)
              · rw [if_neg c16] at H
                exact absurd H (by simp)
            · rw [if_neg c15] at H
              have c15b0 : decide (x21_2 < (l0.length : Int)) = false := decide_eq_false c15
              clear c15
              obtain rfl := Option.some.inj H
              go_wp2
              go_ret
              exact ⟨_, re, rq HO_5, bq⟩
end Go.Proofs.Ytfoapgcnjnogiaa.PA
