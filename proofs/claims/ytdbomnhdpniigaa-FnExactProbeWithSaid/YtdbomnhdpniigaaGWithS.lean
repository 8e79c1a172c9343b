/- Contracts of the functions spec_l4With. (Began as a print of the kit's tool.) -/
import Derived.Test.YtdbomnhdpniigaaPAd
import Derived.Test.YtdbomnhdpniigaaCx
import Derived.Test.YtdbomnhdpniigaaCy
import Derived.Test.YtdbomnhdpniigaaGMeetS
namespace Go.Proofs.Ytdbomnhdpniigaa.PA
open Go.RowKit Go.Proofs.YtdbomnhdpniigaaW.PrintWords Go.Proofs.YtdbomnhdpniigaaW.PrintLast Go.Proofs.YtdbomnhdpniigaaW.PrintMore Go.Proofs.Ytdbomnhdpniigaa.Z
attribute [local go_sem] max2_int min2_int max_two min_two max_three min_three max_four min_four
set_option linter.unusedVariables false
set_option linter.unusedSimpArgs false
def spec_l4With.T5 : Bool × List (List Nat × List Nat) := (true, [([], []), ([], []), ([], []), ([1, 2], [1, 2]), ([3], [3]), ([0, 4], [0, 4]), ([5], [5]), ([6], [6]), ([6], [6]), ([], []), ([9, 7, 5, 0, 1, 2, 3, 4, 5, 6, 7, 9], [7, 9]), ([8, 10, 0, 1, 2, 3, 4, 5, 6, 7, 8, 9, 10], [8])])
def spec_l4With.B5 : List Nat := [0, 0, 0, 6, 14, 31, 63, 127, 127, 0, 767, 2047]
theorem spec_l4With.tab5 : rtab .any (opsOf Try.f52 5) = spec_l4With.T5 := by kernel_rfl
theorem spec_l4With.bits5 : waitsOk spec_l4With.T5.2 spec_l4With.B5 = true := by kernel_rfl
def spec_l4With.T6 : Bool × List (List Nat × List Nat) := (true, [([], []), ([0], [0]), ([1], [1]), ([1], [1]), ([2, 3, 1], [1, 2, 3]), ([4, 1], [1, 4]), ([5, 1], [1, 5]), ([1], [1]), ([7, 1], [1, 7]), ([6, 8, 1], [1, 6, 8]), ([1, 9], [1, 9])])
def spec_l4With.B6 : List Nat := [0, 1, 3, 3, 15, 31, 63, 3, 131, 511, 1023]
theorem spec_l4With.tab6 : rtab .any (opsOf Try.f52 6) = spec_l4With.T6 := by kernel_rfl
theorem spec_l4With.bits6 : waitsOk spec_l4With.T6.2 spec_l4With.B6 = true := by kernel_rfl
set_option maxHeartbeats 8000000 in
set_option maxRecDepth 100000 in
theorem spec_l4With.calls (k : Nat) (A0 : Option Addr) (c0 : Nat) (l0 : List (S40)) (a1_0 : ByteArray) (A1_1 : Option Addr) (c1_1 : Nat) (l1_1 : List (S95)) (r : List (S49)) (w : World) (hr0 : Kd.C k40 w A0 l0.length l0) (hc0 : l0.length ≤ c0) (hr1_1 : Kd.C k95 w A1_1 l1_1.length l1_1) (hc1_1 : l1_1.length ≤ c1_1) (h : spec_l4With.f k l0 a1_0 l1_1 = some r) :
  Calls Try.prog 52 #[.slice A0 l0.length c0, .agg #[.string a1_0, .slice A1_1 l1_1.length c1_1]] w fun e w' => ∃ v0_ : Value, e = .returned (v0_) ∧ Kd.R k49 49 w' w.heap.size (fun _ => True) v0_ r ∧ Below w.heap.size w w' := by
 have hu40 := Try.underlying40
 have hu49 := Try.underlying49
 have HR0 := Aside0.mk hr0
 have HC0 := Aside0.mk hc0
 clear hr0 hc0
 have HR1_1 := Aside0.mk hr1_1
 have HC1_1 := Aside0.mk hc1_1
 clear hr1_1 hc1_1
 have HB := ra (Below.refl w.heap.size w)
 have H : (spec_l4With.l0 k l0 (([] : List (S49))) 0 a1_0 l1_1) = some r := h
 clear h
 obtain ⟨y304, hy_⟩ : ∃ y_ : List (S49), y_ = (([] : List (S49))) := ⟨_, rfl⟩
 replace H : (spec_l4With.l0 k l0 y304 0 a1_0 l1_1) = some r := yh
 have Ny304 := ra hy_
 clear hy_
 have H' := Aside0.mk H
 clear H
 go_enter Try.func52, Try.ntmps52
 go_wp2_with (first | ((with_reducible refine gate_dst (N := 3) rfl ?_); refine be 3 #[.string a1_0, .slice A1_1 l1_1.length c1_1] 40 ?_; intro gb303 hg w3 hbox hb; have _ := bs hb; have _ := ra (hbox); have _ := bz (w0 := w) hg; have _ := bz (w0 := w) hg; clear HB; rename_i HB BK303 GW303 GE303; clear hb hbox hg) | ((with_reducible refine gate_dst (N := 9) rfl ?_); refine Kd.R_lit k49 _ 49 ?hg (N := 9) ?hd (xs := ([] : List (S49))) (inner := []) (ok := fun _ => True) (okp := fun _ => True) ?hr ?hp (fun _ hk => hk) trivial (Below.refl _ _) (Nat.le_refl _) (by simp) ?_; (case hd => rfl); (case hg => rfl); (case hr => first | (go_simp; done) | (go_simp; rfl)); (case hp => exact (Reps.none _ _)); intro v305 w4 ho5 hb hg_ hnew_; clear hg_ hnew_; (first | rw [← Ny304.out] at ho5 | (simp only [Int.reduceToNat] at ho5; rw [← Ny304.out] at ho5)); have _ := ra (Kd.R_lower ho5 (below_size bq)); have _ := bb (bk BK303) hb; have _ := bs hb; clear BK303 HB; rename_i HO306 BK303 HB; clear hb ho5))
 go_loopg [5, 6] k (fun kq v5 v6 w' => ∃ (x5_1 : List (S49)) (x6_1 : Int), v6 = .int .i64 x6_1 ∧ Aside0 (spec_l4With.l0 kq l0 x5_1 x6_1 a1_0 l1_1 = some r) ∧ Aside0 (kq ≤ k) ∧ Aside0 (Kd.R k49 49 w' w.heap.size (fun _ => True) v5 x5_1) ∧ Aside0 (w'.heap[gb303]? = some (.cells #[.string a1_0, (.slice A1_1 l1_1.length c1_1)] 40 (0, 0))) ∧ Aside0 (Below w.heap.size w w'))
 case atStart => exact ⟨(y304), (0), rs, H', ⟨Nat.le_refl _⟩, ⟨rq HO306⟩, ⟨bk BK303⟩, ⟨bq⟩⟩
 case round =>
  clear H'
  obtain ⟨x5_1, x6_1, rfl, HA, HK1, HO_5, BK303, HB⟩ := hrel
  cases gk with
  | zero => exact absurd HA.out (by simp [spec_l4With.l0])
  | succ k1 =>
   have H := HA.out
   clear HA
   simp only [spec_l4With.l0] at H
   by_cases c6 : x6_1 < (l0.length : Int)
   ·rw [if_pos c6] at H
    have c6b0 : decide (x6_1 < (l0.length : Int)) = true := decide_eq_true c6
    clear c6
    by_cases c7 : 0 ≤ x6_1
    ·rw [if_pos c7] at H
     have c7b0 : decide (0 ≤ x6_1) = true := decide_eq_true c7
     clear c7
     obtain ⟨⟨t308, t309, t310, t311, t312, t313⟩, A8, H⟩ := bo H
     try dsimp only at H
     by_cases c9 : t313 = true
     ·subst c9
      replace H := it H rfl
      by_cases c10 : ((rd_T40 l0 x6_1).f0).toList = a1_0.toList
      ·rw [if_pos c10] at H
       have c10b0 : (((rd_T40 l0 x6_1).f0).toList == a1_0.toList) = true := beq_iff_eq.mpr c10
       have c10b1 : (((rd_T40 l0 x6_1).f0).toList != a1_0.toList) = false := bne_eq_false_iff_eq.mpr c10
       clear c10
       have H' := Aside0.mk H
       clear H
       try go_wp2
       have _ := ra (Kd.R_drew HO_5.out)
       have _ := ra (blk_drew BK303.out)
       have _ := ra (below_drew1 HB.out)
       clear HO_5 BK303 HB
       rename_i HO_5 BK303 HB
       have p307 : 0 ≤ (x6_1 : Int) := od
       have q307 : x6_1 < (l0.length : Int) := od
       obtain ⟨ad307, A307_1, c307_1, e307, hx307_0, hx307_1, hl307_1, hi307_1⟩ := at_T40 HR0.out x6_1 p307 q307
       have hw307_1 := hx307_1
       have hw307_0 := hx307_0
       cases e307
       replace hx307_0 := hc HB hx307_0
       replace hx307_1 := hc HB hx307_1
       have HR307_1 := Aside0.mk hi307_1
       have HC307_1 := Aside0.mk hl307_1
       clear hi307_1 hl307_1
       replace p307 := eq_true p307
       replace q307 := eq_true q307
       refine start_ (n := 12) (S := fun w' => w'.cell? ⟨gb303, 0, none⟩ = some (.string a1_0) ∧ w'.cell? ⟨gb303, 1, none⟩ = some (.slice A1_1 l1_1.length c1_1) ∧ w'.cell? (ad307.add ((x6_1).toNat * 2)) = some (.string ((rd_T40 l0 x6_1).f0)) ∧ w'.cell? ⟨(ad307.add ((x6_1).toNat * 2)).block, (ad307.add ((x6_1).toNat * 2)).off + 1, none⟩ = some (.slice A307_1 ((rd_T40 l0 x6_1).f1).length c307_1)) (ds := []) (bl 12 0) (by kernel_rfl) rfl rfl ⟨(blk_cell BK303.out 0).trans rfl, (blk_cell BK303.out 1).trans rfl, (hc HB hw307_0), (hc HB hw307_1)⟩ (fun hHeld => ?_); refine with_tabW spec_l4With.tab5 spec_l4With.bits5 (fun HT_ HW_ => ?_)
       generalize wr.drew = w11 at HO_5 BK303 HB HR307_1 hx307_0 hx307_1 hHeld ⊢
       refine pu 1 18 (bl 12 2) ?_
       refine pu 2 19 (bl 12 6) ?_
       refine pu 3 20 (bl 12 14) ?_
       refine tk 0 17 (bl 12 15) ?_ hHeld
       refine tk 4 21 (bl 12 31) ?_ hHeld
       refine join_ (σ := Nat) 2 #[true, true, true, true, true, true, true, true, true, true, false, false] (fun s_ => [(22, .tuple #[.agg #[.string t308, .string t309, .int .i64 t310, .int .i64 t311, .int .i64 t312], .bool true]), (7, .pointer (some ⟨s_, 0, none⟩)), (16, .tuple #[.agg #[.string t308, .string t309, .int .i64 t310, .int .i64 t311, .int .i64 t312], .bool true]), (23, .agg #[.string t308, .string t309, .int .i64 t310, .int .i64 t311, .int .i64 t312]), (24, .bool true)]) (fun s_ w' => (w'.cell? ⟨gb303, 0, none⟩ = some (.string a1_0) ∧ w'.cell? ⟨gb303, 1, none⟩ = some (.slice A1_1 l1_1.length c1_1) ∧ w'.cell? (ad307.add ((x6_1).toNat * 2)) = some (.string ((rd_T40 l0 x6_1).f0)) ∧ w'.cell? ⟨(ad307.add ((x6_1).toNat * 2)).block, (ad307.add ((x6_1).toNat * 2)).off + 1, none⟩ = some (.slice A307_1 ((rd_T40 l0 x6_1).f1).length c307_1)) ∧ (Kd.R k49 49 w' w.heap.size (fun k_ => k_ ≠ s_) u5 x5_1) ∧ (w'.heap[gb303]? = some (.cells #[.string a1_0, .slice A1_1 l1_1.length c1_1] 40 (0, 0))) ∧ (w'.heap[s_]? = some (.cells #[.string (⟨#[]⟩ : ByteArray), .string (⟨#[]⟩ : ByteArray), .int .i64 0, .int .i64 0, .int .i64 0] 49 (0, 0))) ∧ (w.heap.size ≤ s_) ∧ (w.heap.size ≤ s_) ∧ (gb303 ≠ s_) ∧ (s_ ≠ gb303) ∧ (Below w.heap.size w w')) ?_ ?_
       rotate_left
       ·intro hCont
        refine two_ (i := 5) (j := 9) (Ni := some 22) (Nj := some 7) #[true, true, true, true, true, true, false, false, false, false, false, false] #[true, true, true, true, true, false, false, false, false, true, false, false] rfl rfl rfl rfl (two_of HT_.out (by kernel_rfl)) (by decide) (by decide) (fun K hK => ?_) (fun K hK => ?_)
        ·skip
         refine gs Try.func45 #[.agg #[.string a1_0, .slice A1_1 l1_1.length c1_1], .agg #[.string ((rd_T40 l0 x6_1).f0), .slice A307_1 ((rd_T40 l0 x6_1).f1).length c307_1]] ?_
         with_reducible refine (spec_l3Meet.calls k1 a1_0 _ _ l1_1 ((rd_T40 l0 x6_1).f0) _ _ ((rd_T40 l0 x6_1).f1) t308 t309 t310 t311 t312 true _ ?side1 ?side2 ?side3 ?side4 A8.out).mono ?_
         (case side1 => exact sc HR1_1)
         (case side2 => exact HC1_1.out)
         (case side3 => exact sc HR307_1)
         (case side4 => exact HC307_1.out)
         rintro e w12 ⟨rfl, hb⟩
         refine ⟨_, rfl, ?_⟩
         have _ := ra (Kd.R_below (rq HO_5) hb)
         have _ := bb (bk BK303) hb
         have _ := bs hb
         clear HO_5 BK303 HB
         rename_i HO_5 BK303 HB
         (try clear hb)
         (try clear hb2)
         (try clear hk)
         (try clear hi)
         refine hK.out _ _ ⟨(blk_cell BK303.out 0).trans rfl, (blk_cell BK303.out 1).trans rfl, (hc HB hw307_0), (hc HB hw307_1)⟩ (fun hHeld => ?_)
         clear hK K
         refine nm 22 ?_
         refine pu 6 16 (bl 12 127) ?_
         refine pu 7 23 (bl 12 255) ?_
         refine pu 8 24 (bl 12 511) ?_
         refine oe 9 7 (bl 12 1023) (fun K hK => ?_)
         refine box_step ?hg (N := 7) ?hd (cs := #[.string (⟨#[]⟩ : ByteArray), .string (⟨#[]⟩ : ByteArray), .int .i64 0, .int .i64 0, .int .i64 0]) (t := 49) ?hr ?_; (case hd => rfl); (case hg => rfl); (case hr => first | (go_simp; done) | (go_simp; rfl))
         intro gb314 hg w13 hbox hb
         have _ := ra (Kd.R_below (Kd.R_elderB (rq HO_5) gb314 (Nat.le_of_eq hg.symm)) hb)
         have _ := bb (bk BK303) hb
         have _ := bs hb
         have _ := ra (hbox)
         have _ := bz (w0 := w) hg
         have _ := bz (w0 := w) hg
         have _ := bn hg (bk BK303)
         have _ := bm hg (bk BK303)
         clear HO_5 BK303 HB
         rename_i HO_5 BK303 HB BK314 GW314 GE314 NB303_314 NB314_303
         clear hb hbox hg
         refine hK.out _ _ ⟨(blk_cell BK303.out 0).trans rfl, (blk_cell BK303.out 1).trans rfl, (hc HB hw307_0), (hc HB hw307_1)⟩ (fun hHeld => ?_)
         clear hK K
         refine nm 7 ?_
         exact norm_ (by simp only [putAll, Act.put, List.setIfInBounds_toArray, List.set_cons_zero, List.set_cons_succ]) (hCont (gb314) _ ⟨hHeld, (by (with_reducible repeat (first | apply Kd.R_alloc | apply Kd.R_drewN | apply Kd.R_drew)); exact Kd.R_mono HO_5.out (fun _ hk => hk.2)), (bk BK303), (bk BK314), GW314.out, GE314.out, NB303_314.out, NB314_303.out, bq⟩)
        ·skip
         refine box_step ?hg (N := 7) ?hd (cs := #[.string (⟨#[]⟩ : ByteArray), .string (⟨#[]⟩ : ByteArray), .int .i64 0, .int .i64 0, .int .i64 0]) (t := 49) ?hr ?_; (case hd => rfl); (case hg => rfl); (case hr => first | (go_simp; done) | (go_simp; rfl))
         intro gb314 hg w12 hbox hb
         have _ := ra (Kd.R_below (Kd.R_elderB (rq HO_5) gb314 (Nat.le_of_eq hg.symm)) hb)
         have _ := bb (bk BK303) hb
         have _ := bs hb
         have _ := ra (hbox)
         have _ := bz (w0 := w) hg
         have _ := bz (w0 := w) hg
         have _ := bn hg (bk BK303)
         have _ := bm hg (bk BK303)
         clear HO_5 BK303 HB
         rename_i HO_5 BK303 HB BK314 GW314 GE314 NB303_314 NB314_303
         clear hb hbox hg
         refine hK.out _ _ ⟨(blk_cell BK303.out 0).trans rfl, (blk_cell BK303.out 1).trans rfl, (hc HB hw307_0), (hc HB hw307_1)⟩ (fun hHeld => ?_)
         clear hK K
         refine nm 7 ?_
         refine oe 5 22 (bl 12 575) (fun K hK => ?_)
         refine gs Try.func45 #[.agg #[.string a1_0, .slice A1_1 l1_1.length c1_1], .agg #[.string ((rd_T40 l0 x6_1).f0), .slice A307_1 ((rd_T40 l0 x6_1).f1).length c307_1]] ?_
         with_reducible refine (spec_l3Meet.calls k1 a1_0 _ _ l1_1 ((rd_T40 l0 x6_1).f0) _ _ ((rd_T40 l0 x6_1).f1) t308 t309 t310 t311 t312 true _ ?side1 ?side2 ?side3 ?side4 A8.out).mono ?_
         (case side1 => exact sc HR1_1)
         (case side2 => exact HC1_1.out)
         (case side3 => exact sc HR307_1)
         (case side4 => exact HC307_1.out)
         rintro e w13 ⟨rfl, hb⟩
         refine ⟨_, rfl, ?_⟩
         have _ := ra (Kd.R_below (rq HO_5) hb)
         have _ := bb (bk BK303) hb
         have _ := bb (bk BK314) hb
         have _ := bs hb
         clear HO_5 BK303 BK314 HB
         rename_i HO_5 BK303 BK314 HB
         (try clear hb)
         (try clear hb2)
         (try clear hk)
         (try clear hi)
         refine hK.out _ _ ⟨(blk_cell BK303.out 0).trans rfl, (blk_cell BK303.out 1).trans rfl, (hc HB hw307_0), (hc HB hw307_1)⟩ (fun hHeld => ?_)
         clear hK K
         refine nm 22 ?_
         refine pu 6 16 (bl 12 639) ?_
         refine pu 7 23 (bl 12 767) ?_
         refine pu 8 24 (bl 12 1023) ?_
         exact norm_ (by simp only [putAll, Act.put, List.setIfInBounds_toArray, List.set_cons_zero, List.set_cons_succ]) (hCont (gb314) _ ⟨hHeld, (by (with_reducible repeat (first | apply Kd.R_alloc | apply Kd.R_drewN | apply Kd.R_drew)); exact Kd.R_mono HO_5.out (fun _ hk => hk.2)), (bk BK303), (bk BK314), GW314.out, GE314.out, NB303_314.out, NB314_303.out, bq⟩)
       rintro gb314 w14 ⟨hS_, h0_, h1_, h2_, h3_, h4_, h5_, h6_, h7_⟩
       have _ : Aside0 (Kd.R k49 49 w14 w.heap.size (fun k_ => k_ ≠ gb314) u5 x5_1) := ⟨h0_⟩
       have _ : Aside0 (w14.heap[gb303]? = some (.cells #[.string a1_0, .slice A1_1 l1_1.length c1_1] 40 (0, 0))) := ⟨h1_⟩
       have _ : Aside0 (w14.heap[gb314]? = some (.cells #[.string (⟨#[]⟩ : ByteArray), .string (⟨#[]⟩ : ByteArray), .int .i64 0, .int .i64 0, .int .i64 0] 49 (0, 0))) := ⟨h2_⟩
       have _ : Aside0 (w.heap.size ≤ gb314) := ⟨h3_⟩
       have _ : Aside0 (w.heap.size ≤ gb314) := ⟨h4_⟩
       have _ : Aside0 (gb303 ≠ gb314) := ⟨h5_⟩
       have _ : Aside0 (gb314 ≠ gb303) := ⟨h6_⟩
       have _ : Aside0 (Below w.heap.size w w14) := ⟨h7_⟩
       clear HO_5 BK303 HB
       clear h0_ h1_ h2_ h3_ h4_ h5_ h6_ h7_
       rename_i HO_5 BK303 BK314 GW314 GE314 NB303_314 NB314_303 HB
       have hHeld : w14.cell? ⟨gb303, 0, none⟩ = some (.string a1_0) ∧ w14.cell? ⟨gb303, 1, none⟩ = some (.slice A1_1 l1_1.length c1_1) ∧ w14.cell? (ad307.add ((x6_1).toNat * 2)) = some (.string ((rd_T40 l0 x6_1).f0)) ∧ w14.cell? ⟨(ad307.add ((x6_1).toNat * 2)).block, (ad307.add ((x6_1).toNat * 2)).off + 1, none⟩ = some (.slice A307_1 ((rd_T40 l0 x6_1).f1).length c307_1) := hS_
       refine norm_ (a' := ?_) ?_ ?_
       rotate_left
       ·simp only [putAll, Act.put, List.setIfInBounds_toArray, List.set_cons_zero, List.set_cons_succ]
        rfl
       refine one_ (i := 10) (N := none) #[true, true, true, true, true, true, true, true, true, true, true, false] rfl rfl (one_of HT_.out (by kernel_rfl)) (by decide) (fun K hK => ?_)
       have hs15 : w14.cell? ⟨gb314, 0, none⟩ = some (.string (⟨#[]⟩ : ByteArray)) := (blk_cell BK314.out 0).trans rfl
       have hfs15 := blk_frozen BK314.out 0
       have hns15_0 := NB303_314.out
       have hms15_0 := NB314_303.out
       have hs16 : w14.cell? ⟨gb314, 1, none⟩ = some (.string (⟨#[]⟩ : ByteArray)) := (blk_cell BK314.out 1).trans rfl
       have hfs16 := blk_frozen BK314.out 1
       have hns16_0 := NB303_314.out
       have hms16_0 := NB314_303.out
       have hs17 : w14.cell? ⟨gb314, 2, none⟩ = some (.int .i64 0) := (blk_cell BK314.out 2).trans rfl
       have hfs17 := blk_frozen BK314.out 2
       have hns17_0 := NB303_314.out
       have hms17_0 := NB314_303.out
       have hs18 : w14.cell? ⟨gb314, 3, none⟩ = some (.int .i64 0) := (blk_cell BK314.out 3).trans rfl
       have hfs18 := blk_frozen BK314.out 3
       have hns18_0 := NB303_314.out
       have hms18_0 := NB314_303.out
       have hs19 : w14.cell? ⟨gb314, 4, none⟩ = some (.int .i64 0) := (blk_cell BK314.out 4).trans rfl
       have hfs19 := blk_frozen BK314.out 4
       have hns19_0 := NB303_314.out
       have hms19_0 := NB314_303.out
       refine skip_ (w1 := ?_) (by rfl) rfl ?_ ?_
       rotate_left
       ·go_simp
        rfl
       refine hK.out _ _ ⟨((cell_far (p := ⟨gb314, _, none⟩) NB303_314.out _).trans (((cell_far (p := ⟨gb314, _, none⟩) NB303_314.out _).trans (((cell_far (p := ⟨gb314, _, none⟩) NB303_314.out _).trans (((cell_far (p := ⟨gb314, _, none⟩) NB303_314.out _).trans (((cell_far (p := ⟨gb314, _, none⟩) NB303_314.out _).trans (hHeld.1)))))))))), ((cell_far (p := ⟨gb314, _, none⟩) NB303_314.out _).trans (((cell_far (p := ⟨gb314, _, none⟩) NB303_314.out _).trans (((cell_far (p := ⟨gb314, _, none⟩) NB303_314.out _).trans (((cell_far (p := ⟨gb314, _, none⟩) NB303_314.out _).trans (((cell_far (p := ⟨gb314, _, none⟩) NB303_314.out _).trans (hHeld.2.1)))))))))), ((cell_far (p := ⟨gb314, _, none⟩) (by first | exact Nat.ne_of_lt (Nat.lt_of_lt_of_le (by have := World.block_lt_of_cell? _ _ hw307_0; first | rwa [add_block] at this | exact this) GW314.out) | (rw [add_block]; exact Nat.ne_of_lt (Nat.lt_of_lt_of_le (by have := World.block_lt_of_cell? _ _ hw307_0; first | rwa [add_block] at this | exact this) GW314.out)) | (show (Addr.add _ _).block ≠ _; rw [add_block]; exact Nat.ne_of_lt (Nat.lt_of_lt_of_le (by have := World.block_lt_of_cell? _ _ hw307_0; first | rwa [add_block] at this | exact this) GW314.out)) | (dsimp only; exact Nat.ne_of_lt (Nat.lt_of_lt_of_le (by have := World.block_lt_of_cell? _ _ hw307_0; first | rwa [add_block] at this | exact this) GW314.out))) _).trans (((cell_far (p := ⟨gb314, _, none⟩) (by first | exact Nat.ne_of_lt (Nat.lt_of_lt_of_le (by have := World.block_lt_of_cell? _ _ hw307_0; first | rwa [add_block] at this | exact this) GW314.out) | (rw [add_block]; exact Nat.ne_of_lt (Nat.lt_of_lt_of_le (by have := World.block_lt_of_cell? _ _ hw307_0; first | rwa [add_block] at this | exact this) GW314.out)) | (show (Addr.add _ _).block ≠ _; rw [add_block]; exact Nat.ne_of_lt (Nat.lt_of_lt_of_le (by have := World.block_lt_of_cell? _ _ hw307_0; first | rwa [add_block] at this | exact this) GW314.out)) | (dsimp only; exact Nat.ne_of_lt (Nat.lt_of_lt_of_le (by have := World.block_lt_of_cell? _ _ hw307_0; first | rwa [add_block] at this | exact this) GW314.out))) _).trans (((cell_far (p := ⟨gb314, _, none⟩) (by first | exact Nat.ne_of_lt (Nat.lt_of_lt_of_le (by have := World.block_lt_of_cell? _ _ hw307_0; first | rwa [add_block] at this | exact this) GW314.out) | (rw [add_block]; exact Nat.ne_of_lt (Nat.lt_of_lt_of_le (by have := World.block_lt_of_cell? _ _ hw307_0; first | rwa [add_block] at this | exact this) GW314.out)) | (show (Addr.add _ _).block ≠ _; rw [add_block]; exact Nat.ne_of_lt (Nat.lt_of_lt_of_le (by have := World.block_lt_of_cell? _ _ hw307_0; first | rwa [add_block] at this | exact this) GW314.out)) | (dsimp only; exact Nat.ne_of_lt (Nat.lt_of_lt_of_le (by have := World.block_lt_of_cell? _ _ hw307_0; first | rwa [add_block] at this | exact this) GW314.out))) _).trans (((cell_far (p := ⟨gb314, _, none⟩) (by first | exact Nat.ne_of_lt (Nat.lt_of_lt_of_le (by have := World.block_lt_of_cell? _ _ hw307_0; first | rwa [add_block] at this | exact this) GW314.out) | (rw [add_block]; exact Nat.ne_of_lt (Nat.lt_of_lt_of_le (by have := World.block_lt_of_cell? _ _ hw307_0; first | rwa [add_block] at this | exact this) GW314.out)) | (show (Addr.add _ _).block ≠ _; rw [add_block]; exact Nat.ne_of_lt (Nat.lt_of_lt_of_le (by have := World.block_lt_of_cell? _ _ hw307_0; first | rwa [add_block] at this | exact this) GW314.out)) | (dsimp only; exact Nat.ne_of_lt (Nat.lt_of_lt_of_le (by have := World.block_lt_of_cell? _ _ hw307_0; first | rwa [add_block] at this | exact this) GW314.out))) _).trans (((cell_far (p := ⟨gb314, _, none⟩) (by first | exact Nat.ne_of_lt (Nat.lt_of_lt_of_le (by have := World.block_lt_of_cell? _ _ hw307_0; first | rwa [add_block] at this | exact this) GW314.out) | (rw [add_block]; exact Nat.ne_of_lt (Nat.lt_of_lt_of_le (by have := World.block_lt_of_cell? _ _ hw307_0; first | rwa [add_block] at this | exact this) GW314.out)) | (show (Addr.add _ _).block ≠ _; rw [add_block]; exact Nat.ne_of_lt (Nat.lt_of_lt_of_le (by have := World.block_lt_of_cell? _ _ hw307_0; first | rwa [add_block] at this | exact this) GW314.out)) | (dsimp only; exact Nat.ne_of_lt (Nat.lt_of_lt_of_le (by have := World.block_lt_of_cell? _ _ hw307_0; first | rwa [add_block] at this | exact this) GW314.out))) _).trans (hHeld.2.2.1)))))))))), ((cell_far (p := ⟨gb314, _, none⟩) (by first | exact Nat.ne_of_lt (Nat.lt_of_lt_of_le (by have := World.block_lt_of_cell? _ _ hw307_1; first | rwa [add_block] at this | exact this) GW314.out) | (rw [add_block]; exact Nat.ne_of_lt (Nat.lt_of_lt_of_le (by have := World.block_lt_of_cell? _ _ hw307_1; first | rwa [add_block] at this | exact this) GW314.out)) | (show (Addr.add _ _).block ≠ _; rw [add_block]; exact Nat.ne_of_lt (Nat.lt_of_lt_of_le (by have := World.block_lt_of_cell? _ _ hw307_1; first | rwa [add_block] at this | exact this) GW314.out)) | (dsimp only; exact Nat.ne_of_lt (Nat.lt_of_lt_of_le (by have := World.block_lt_of_cell? _ _ hw307_1; first | rwa [add_block] at this | exact this) GW314.out))) _).trans (((cell_far (p := ⟨gb314, _, none⟩) (by first | exact Nat.ne_of_lt (Nat.lt_of_lt_of_le (by have := World.block_lt_of_cell? _ _ hw307_1; first | rwa [add_block] at this | exact this) GW314.out) | (rw [add_block]; exact Nat.ne_of_lt (Nat.lt_of_lt_of_le (by have := World.block_lt_of_cell? _ _ hw307_1; first | rwa [add_block] at this | exact this) GW314.out)) | (show (Addr.add _ _).block ≠ _; rw [add_block]; exact Nat.ne_of_lt (Nat.lt_of_lt_of_le (by have := World.block_lt_of_cell? _ _ hw307_1; first | rwa [add_block] at this | exact this) GW314.out)) | (dsimp only; exact Nat.ne_of_lt (Nat.lt_of_lt_of_le (by have := World.block_lt_of_cell? _ _ hw307_1; first | rwa [add_block] at this | exact this) GW314.out))) _).trans (((cell_far (p := ⟨gb314, _, none⟩) (by first | exact Nat.ne_of_lt (Nat.lt_of_lt_of_le (by have := World.block_lt_of_cell? _ _ hw307_1; first | rwa [add_block] at this | exact this) GW314.out) | (rw [add_block]; exact Nat.ne_of_lt (Nat.lt_of_lt_of_le (by have := World.block_lt_of_cell? _ _ hw307_1; first | rwa [add_block] at this | exact this) GW314.out)) | (show (Addr.add _ _).block ≠ _; rw [add_block]; exact Nat.ne_of_lt (Nat.lt_of_lt_of_le (by have := World.block_lt_of_cell? _ _ hw307_1; first | rwa [add_block] at this | exact this) GW314.out)) | (dsimp only; exact Nat.ne_of_lt (Nat.lt_of_lt_of_le (by have := World.block_lt_of_cell? _ _ hw307_1; first | rwa [add_block] at this | exact this) GW314.out))) _).trans (((cell_far (p := ⟨gb314, _, none⟩) (by first | exact Nat.ne_of_lt (Nat.lt_of_lt_of_le (by have := World.block_lt_of_cell? _ _ hw307_1; first | rwa [add_block] at this | exact this) GW314.out) | (rw [add_block]; exact Nat.ne_of_lt (Nat.lt_of_lt_of_le (by have := World.block_lt_of_cell? _ _ hw307_1; first | rwa [add_block] at this | exact this) GW314.out)) | (show (Addr.add _ _).block ≠ _; rw [add_block]; exact Nat.ne_of_lt (Nat.lt_of_lt_of_le (by have := World.block_lt_of_cell? _ _ hw307_1; first | rwa [add_block] at this | exact this) GW314.out)) | (dsimp only; exact Nat.ne_of_lt (Nat.lt_of_lt_of_le (by have := World.block_lt_of_cell? _ _ hw307_1; first | rwa [add_block] at this | exact this) GW314.out))) _).trans (((cell_far (p := ⟨gb314, _, none⟩) (by first | exact Nat.ne_of_lt (Nat.lt_of_lt_of_le (by have := World.block_lt_of_cell? _ _ hw307_1; first | rwa [add_block] at this | exact this) GW314.out) | (rw [add_block]; exact Nat.ne_of_lt (Nat.lt_of_lt_of_le (by have := World.block_lt_of_cell? _ _ hw307_1; first | rwa [add_block] at this | exact this) GW314.out)) | (show (Addr.add _ _).block ≠ _; rw [add_block]; exact Nat.ne_of_lt (Nat.lt_of_lt_of_le (by have := World.block_lt_of_cell? _ _ hw307_1; first | rwa [add_block] at this | exact this) GW314.out)) | (dsimp only; exact Nat.ne_of_lt (Nat.lt_of_lt_of_le (by have := World.block_lt_of_cell? _ _ hw307_1; first | rwa [add_block] at this | exact this) GW314.out))) _).trans (hHeld.2.2.2))))))))))⟩ (fun hHeld => ?_)
       clear hK K
       refine pu 11 8 (bl 12 4095) ?_
       refine done_ (done_of HT_.out (by kernel_rfl)) ?_
       try go_wp2
       have n0 : Aside0 (Kd.R k49 49 (((((w14.setCell ⟨gb314, 0, none⟩ (.string t308)).setCell ⟨gb314, 1, none⟩ (.string t309)).setCell ⟨gb314, 2, none⟩ (.int .i64 t310)).setCell ⟨gb314, 3, none⟩ (.int .i64 t311)).setCell ⟨gb314, 4, none⟩ (.int .i64 t312)) w.heap.size (fun k_ => k_ ≠ gb314) u5 x5_1) := ⟨by (with_reducible repeat (first | apply Kd.R_alloc | apply Kd.R_drewN | apply Kd.R_drew)); exact Kd.R_mono (rf (Kd.R_mono HO_5.out (fun k_ hk => (⟨hk, hk⟩ : _ ∧ k_ ≠ gb314)))) (fun _ hk => hk.1)⟩
       have n1 : Aside0 ((((((w14.setCell ⟨gb314, 0, none⟩ (.string t308)).setCell ⟨gb314, 1, none⟩ (.string t309)).setCell ⟨gb314, 2, none⟩ (.int .i64 t310)).setCell ⟨gb314, 3, none⟩ (.int .i64 t311)).setCell ⟨gb314, 4, none⟩ (.int .i64 t312)).heap[gb303]? = some (.cells #[.string a1_0, .slice A1_1 l1_1.length c1_1] 40 (0, 0))) := ⟨bk BK303⟩
       have n2 : Aside0 ((((((w14.setCell ⟨gb314, 0, none⟩ (.string t308)).setCell ⟨gb314, 1, none⟩ (.string t309)).setCell ⟨gb314, 2, none⟩ (.int .i64 t310)).setCell ⟨gb314, 3, none⟩ (.int .i64 t311)).setCell ⟨gb314, 4, none⟩ (.int .i64 t312)).heap[gb314]? = some (.cells #[.string t308, .string t309, .int .i64 t310, .int .i64 t311, .int .i64 t312] 49 (0, 0))) := ⟨bp BK314⟩
       have n3 : Aside0 (Below w.heap.size w (((((w14.setCell ⟨gb314, 0, none⟩ (.string t308)).setCell ⟨gb314, 1, none⟩ (.string t309)).setCell ⟨gb314, 2, none⟩ (.int .i64 t310)).setCell ⟨gb314, 3, none⟩ (.int .i64 t311)).setCell ⟨gb314, 4, none⟩ (.int .i64 t312))) := ⟨bq⟩
       (try clear HO_5)
       (try clear BK303)
       (try clear BK314)
       (try clear HB)
       generalize (((((w14.setCell ⟨gb314, 0, none⟩ (.string t308)).setCell ⟨gb314, 1, none⟩ (.string t309)).setCell ⟨gb314, 2, none⟩ (.int .i64 t310)).setCell ⟨gb314, 3, none⟩ (.int .i64 t311)).setCell ⟨gb314, 4, none⟩ (.int .i64 t312)) = w20 at n0 n1 n2 n3 ⊢
       have HO_5 := n0
       have BK303 := n1
       have BK314 := n2
       have HB := n3
       clear n0 n1 n2 n3
       have _ := ra (Kd.R_drew HO_5.out)
       have _ := ra (blk_drew BK303.out)
       have _ := ra (blk_drew BK314.out)
       have _ := ra (below_drew1 HB.out)
       clear HO_5 BK303 BK314 HB
       rename_i HO_5 BK303 BK314 HB
       have p315 : 0 ≤ (x6_1 : Int) := od
       have q315 : x6_1 < (l0.length : Int) := od
       obtain ⟨ad315, A315_1, c315_1, e315, hx315_0, hx315_1, hl315_1, hi315_1⟩ := at_T40 HR0.out x6_1 p315 q315
       have hw315_1 := hx315_1
       have hw315_0 := hx315_0
       obtain rfl : ad307 = ad315 := (by injection e315)
       replace hx315_0 := hc HB hx315_0
       replace hx315_1 := hc HB hx315_1
       have HR315_1 := Aside0.mk hi315_1
       have HC315_1 := Aside0.mk hl315_1
       clear hi315_1 hl315_1
       replace p315 := eq_true p315
       replace q315 := eq_true q315
       refine start_ (n := 11) (S := fun w' => w'.cell? ⟨gb303, 0, none⟩ = some (.string a1_0) ∧ w'.cell? ⟨gb303, 1, none⟩ = some (.slice A1_1 l1_1.length c1_1) ∧ w'.cell? (ad307.add ((x6_1).toNat * 2)) = some (.string ((rd_T40 l0 x6_1).f0)) ∧ w'.cell? ⟨(ad307.add ((x6_1).toNat * 2)).block, (ad307.add ((x6_1).toNat * 2)).off + 1, none⟩ = some (.slice A315_1 ((rd_T40 l0 x6_1).f1).length c315_1)) (ds := []) (bl 11 0) (by kernel_rfl) rfl rfl ⟨(blk_cell BK303.out 0).trans rfl, (blk_cell BK303.out 1).trans rfl, (hc HB hw315_0), (hc HB hw315_1)⟩ (fun hHeld => ?_); refine with_tabW spec_l4With.tab6 spec_l4With.bits6 (fun HT_ HW_ => ?_)
       generalize w20.drew = w21 at HO_5 BK303 BK314 HB HR315_1 hx315_0 hx315_1 hHeld ⊢
       refine pu 0 25 (bl 11 1) ?_
       refine pu 1 26 (bl 11 3) ?_
       refine pu 2 27 (bl 11 7) ?_
       refine pu 3 28 (bl 11 15) ?_
       refine pu 4 29 (bl 11 31) ?_
       refine pu 5 30 (bl 11 63) ?_
       refine pu 7 32 (bl 11 191) ?_
       refine tk 6 31 (bl 11 255) ?_ hHeld
       refine tk 8 33 (bl 11 511) ?_ hHeld
       refine pu 9 34 (bl 11 1023) ?_
       refine pu 10 35 (bl 11 2047) ?_
       refine done_ (done_of HT_.out (by kernel_rfl)) ?_
       try go_wp2
       go_roundg k1
       case measure => have := HK1.out; omega
       case rel => exact ⟨(x5_1), (wrap64 (x6_1 + 1)), rs, H', ⟨by have := HK1.out; omega⟩, ⟨by (with_reducible repeat (first | apply Kd.R_alloc | apply Kd.R_drewN | apply Kd.R_drew)); exact Kd.R_mono HO_5.out (fun _ hk => trivial)⟩, ⟨bk BK303⟩, ⟨bq⟩⟩
      ·rw [if_neg c10] at H
       have c10b0 : (((rd_T40 l0 x6_1).f0).toList == a1_0.toList) = false := beq_eq_false_iff_ne.mpr c10
       have c10b1 : (((rd_T40 l0 x6_1).f0).toList != a1_0.toList) = true := bne_iff_ne.mpr c10
       by_cases c22 : x5_1.length < 2513169434916
       ·rw [if_pos c22] at H
        have LMc22 := Aside0.mk c22
        clear c22
        obtain ⟨y316, hy_⟩ : ∃ y_ : List (S49), y_ = (x5_1 ++ [(⟨t308, t309, t310, t311, t312⟩ : S49)]) := ⟨_, rfl⟩
        replace H : (spec_l4With.l0 k1 l0 y316 (wrap64 (x6_1 + 1)) a1_0 l1_1) = some r := yh
        have Ny316 := ra hy_
        clear hy_
        have H' := Aside0.mk H
        clear H
        try go_wp2
        have _ := ra (Kd.R_drew HO_5.out)
        have _ := ra (blk_drew BK303.out)
        have _ := ra (below_drew1 HB.out)
        clear HO_5 BK303 HB
        rename_i HO_5 BK303 HB
        have p307 : 0 ≤ (x6_1 : Int) := od
        have q307 : x6_1 < (l0.length : Int) := od
        obtain ⟨ad307, A307_1, c307_1, e307, hx307_0, hx307_1, hl307_1, hi307_1⟩ := at_T40 HR0.out x6_1 p307 q307
        have hw307_1 := hx307_1
        have hw307_0 := hx307_0
        cases e307
        replace hx307_0 := hc HB hx307_0
        replace hx307_1 := hc HB hx307_1
        have HR307_1 := Aside0.mk hi307_1
        have HC307_1 := Aside0.mk hl307_1
        clear hi307_1 hl307_1
        replace p307 := eq_true p307
        replace q307 := eq_true q307
        refine start_ (n := 12) (S := fun w' => w'.cell? ⟨gb303, 0, none⟩ = some (.string a1_0) ∧ w'.cell? ⟨gb303, 1, none⟩ = some (.slice A1_1 l1_1.length c1_1) ∧ w'.cell? (ad307.add ((x6_1).toNat * 2)) = some (.string ((rd_T40 l0 x6_1).f0)) ∧ w'.cell? ⟨(ad307.add ((x6_1).toNat * 2)).block, (ad307.add ((x6_1).toNat * 2)).off + 1, none⟩ = some (.slice A307_1 ((rd_T40 l0 x6_1).f1).length c307_1)) (ds := []) (bl 12 0) (by kernel_rfl) rfl rfl ⟨(blk_cell BK303.out 0).trans rfl, (blk_cell BK303.out 1).trans rfl, (hc HB hw307_0), (hc HB hw307_1)⟩ (fun hHeld => ?_); refine with_tabW spec_l4With.tab5 spec_l4With.bits5 (fun HT_ HW_ => ?_)
        generalize wr.drew = w23 at HO_5 BK303 HB HR307_1 hx307_0 hx307_1 hHeld ⊢
        refine pu 1 18 (bl 12 2) ?_
        refine pu 2 19 (bl 12 6) ?_
        refine pu 3 20 (bl 12 14) ?_
        refine tk 0 17 (bl 12 15) ?_ hHeld
        refine tk 4 21 (bl 12 31) ?_ hHeld
        refine join_ (σ := Nat) 2 #[true, true, true, true, true, true, true, true, true, true, false, false] (fun s_ => [(22, .tuple #[.agg #[.string t308, .string t309, .int .i64 t310, .int .i64 t311, .int .i64 t312], .bool true]), (7, .pointer (some ⟨s_, 0, none⟩)), (16, .tuple #[.agg #[.string t308, .string t309, .int .i64 t310, .int .i64 t311, .int .i64 t312], .bool true]), (23, .agg #[.string t308, .string t309, .int .i64 t310, .int .i64 t311, .int .i64 t312]), (24, .bool true)]) (fun s_ w' => (w'.cell? ⟨gb303, 0, none⟩ = some (.string a1_0) ∧ w'.cell? ⟨gb303, 1, none⟩ = some (.slice A1_1 l1_1.length c1_1) ∧ w'.cell? (ad307.add ((x6_1).toNat * 2)) = some (.string ((rd_T40 l0 x6_1).f0)) ∧ w'.cell? ⟨(ad307.add ((x6_1).toNat * 2)).block, (ad307.add ((x6_1).toNat * 2)).off + 1, none⟩ = some (.slice A307_1 ((rd_T40 l0 x6_1).f1).length c307_1)) ∧ (Kd.R k49 49 w' w.heap.size (fun k_ => k_ ≠ s_) u5 x5_1) ∧ (w'.heap[gb303]? = some (.cells #[.string a1_0, .slice A1_1 l1_1.length c1_1] 40 (0, 0))) ∧ (w'.heap[s_]? = some (.cells #[.string (⟨#[]⟩ : ByteArray), .string (⟨#[]⟩ : ByteArray), .int .i64 0, .int .i64 0, .int .i64 0] 49 (0, 0))) ∧ (w.heap.size ≤ s_) ∧ (w.heap.size ≤ s_) ∧ (gb303 ≠ s_) ∧ (s_ ≠ gb303) ∧ (Below w.heap.size w w')) ?_ ?_
        rotate_left
        ·intro hCont
         refine two_ (i := 5) (j := 9) (Ni := some 22) (Nj := some 7) #[true, true, true, true, true, true, false, false, false, false, false, false] #[true, true, true, true, true, false, false, false, false, true, false, false] rfl rfl rfl rfl (two_of HT_.out (by kernel_rfl)) (by decide) (by decide) (fun K hK => ?_) (fun K hK => ?_)
         ·skip
          refine gs Try.func45 #[.agg #[.string a1_0, .slice A1_1 l1_1.length c1_1], .agg #[.string ((rd_T40 l0 x6_1).f0), .slice A307_1 ((rd_T40 l0 x6_1).f1).length c307_1]] ?_
          with_reducible refine (spec_l3Meet.calls k1 a1_0 _ _ l1_1 ((rd_T40 l0 x6_1).f0) _ _ ((rd_T40 l0 x6_1).f1) t308 t309 t310 t311 t312 true _ ?side1 ?side2 ?side3 ?side4 A8.out).mono ?_
          (case side1 => exact sc HR1_1)
          (case side2 => exact HC1_1.out)
          (case side3 => exact sc HR307_1)
          (case side4 => exact HC307_1.out)
          rintro e w24 ⟨rfl, hb⟩
          refine ⟨_, rfl, ?_⟩
          have _ := ra (Kd.R_below (rq HO_5) hb)
          have _ := bb (bk BK303) hb
          have _ := bs hb
          clear HO_5 BK303 HB
          rename_i HO_5 BK303 HB
          (try clear hb)
          (try clear hb2)
          (try clear hk)
          (try clear hi)
          refine hK.out _ _ ⟨(blk_cell BK303.out 0).trans rfl, (blk_cell BK303.out 1).trans rfl, (hc HB hw307_0), (hc HB hw307_1)⟩ (fun hHeld => ?_)
          clear hK K
          refine nm 22 ?_
          refine pu 6 16 (bl 12 127) ?_
          refine pu 7 23 (bl 12 255) ?_
          refine pu 8 24 (bl 12 511) ?_
          refine oe 9 7 (bl 12 1023) (fun K hK => ?_)
          refine box_step ?hg (N := 7) ?hd (cs := #[.string (⟨#[]⟩ : ByteArray), .string (⟨#[]⟩ : ByteArray), .int .i64 0, .int .i64 0, .int .i64 0]) (t := 49) ?hr ?_; (case hd => rfl); (case hg => rfl); (case hr => first | (go_simp; done) | (go_simp; rfl))
          intro gb314 hg w25 hbox hb
          have _ := ra (Kd.R_below (Kd.R_elderB (rq HO_5) gb314 (Nat.le_of_eq hg.symm)) hb)
          have _ := bb (bk BK303) hb
          have _ := bs hb
          have _ := ra (hbox)
          have _ := bz (w0 := w) hg
          have _ := bz (w0 := w) hg
          have _ := bn hg (bk BK303)
          have _ := bm hg (bk BK303)
          clear HO_5 BK303 HB
          rename_i HO_5 BK303 HB BK314 GW314 GE314 NB303_314 NB314_303
          clear hb hbox hg
          refine hK.out _ _ ⟨(blk_cell BK303.out 0).trans rfl, (blk_cell BK303.out 1).trans rfl, (hc HB hw307_0), (hc HB hw307_1)⟩ (fun hHeld => ?_)
          clear hK K
          refine nm 7 ?_
          exact norm_ (by simp only [putAll, Act.put, List.setIfInBounds_toArray, List.set_cons_zero, List.set_cons_succ]) (hCont (gb314) _ ⟨hHeld, (by (with_reducible repeat (first | apply Kd.R_alloc | apply Kd.R_drewN | apply Kd.R_drew)); exact Kd.R_mono HO_5.out (fun _ hk => hk.2)), (bk BK303), (bk BK314), GW314.out, GE314.out, NB303_314.out, NB314_303.out, bq⟩)
         ·skip
          refine box_step ?hg (N := 7) ?hd (cs := #[.string (⟨#[]⟩ : ByteArray), .string (⟨#[]⟩ : ByteArray), .int .i64 0, .int .i64 0, .int .i64 0]) (t := 49) ?hr ?_; (case hd => rfl); (case hg => rfl); (case hr => first | (go_simp; done) | (go_simp; rfl))
          intro gb314 hg w24 hbox hb
          have _ := ra (Kd.R_below (Kd.R_elderB (rq HO_5) gb314 (Nat.le_of_eq hg.symm)) hb)
          have _ := bb (bk BK303) hb
          have _ := bs hb
          have _ := ra (hbox)
          have _ := bz (w0 := w) hg
          have _ := bz (w0 := w) hg
          have _ := bn hg (bk BK303)
          have _ := bm hg (bk BK303)
          clear HO_5 BK303 HB
          rename_i HO_5 BK303 HB BK314 GW314 GE314 NB303_314 NB314_303
          clear hb hbox hg
          refine hK.out _ _ ⟨(blk_cell BK303.out 0).trans rfl, (blk_cell BK303.out 1).trans rfl, (hc HB hw307_0), (hc HB hw307_1)⟩ (fun hHeld => ?_)
          clear hK K
          refine nm 7 ?_
          refine oe 5 22 (bl 12 575) (fun K hK => ?_)
          refine gs Try.func45 #[.agg #[.string a1_0, .slice A1_1 l1_1.length c1_1], .agg #[.string ((rd_T40 l0 x6_1).f0), .slice A307_1 ((rd_T40 l0 x6_1).f1).length c307_1]] ?_
          with_reducible refine (spec_l3Meet.calls k1 a1_0 _ _ l1_1 ((rd_T40 l0 x6_1).f0) _ _ ((rd_T40 l0 x6_1).f1) t308 t309 t310 t311 t312 true _ ?side1 ?side2 ?side3 ?side4 A8.out).mono ?_
          (case side1 => exact sc HR1_1)
          (case side2 => exact HC1_1.out)
          (case side3 => exact sc HR307_1)
          (case side4 => exact HC307_1.out)
          rintro e w25 ⟨rfl, hb⟩
          refine ⟨_, rfl, ?_⟩
          have _ := ra (Kd.R_below (rq HO_5) hb)
          have _ := bb (bk BK303) hb
          have _ := bb (bk BK314) hb
          have _ := bs hb
          clear HO_5 BK303 BK314 HB
          rename_i HO_5 BK303 BK314 HB
          (try clear hb)
          (try clear hb2)
          (try clear hk)
          (try clear hi)
          refine hK.out _ _ ⟨(blk_cell BK303.out 0).trans rfl, (blk_cell BK303.out 1).trans rfl, (hc HB hw307_0), (hc HB hw307_1)⟩ (fun hHeld => ?_)
          clear hK K
          refine nm 22 ?_
          refine pu 6 16 (bl 12 639) ?_
          refine pu 7 23 (bl 12 767) ?_
          refine pu 8 24 (bl 12 1023) ?_
          exact norm_ (by simp only [putAll, Act.put, List.setIfInBounds_toArray, List.set_cons_zero, List.set_cons_succ]) (hCont (gb314) _ ⟨hHeld, (by (with_reducible repeat (first | apply Kd.R_alloc | apply Kd.R_drewN | apply Kd.R_drew)); exact Kd.R_mono HO_5.out (fun _ hk => hk.2)), (bk BK303), (bk BK314), GW314.out, GE314.out, NB303_314.out, NB314_303.out, bq⟩)
        rintro gb314 w26 ⟨hS_, h0_, h1_, h2_, h3_, h4_, h5_, h6_, h7_⟩
        have _ : Aside0 (Kd.R k49 49 w26 w.heap.size (fun k_ => k_ ≠ gb314) u5 x5_1) := ⟨h0_⟩
        have _ : Aside0 (w26.heap[gb303]? = some (.cells #[.string a1_0, .slice A1_1 l1_1.length c1_1] 40 (0, 0))) := ⟨h1_⟩
        have _ : Aside0 (w26.heap[gb314]? = some (.cells #[.string (⟨#[]⟩ : ByteArray), .string (⟨#[]⟩ : ByteArray), .int .i64 0, .int .i64 0, .int .i64 0] 49 (0, 0))) := ⟨h2_⟩
        have _ : Aside0 (w.heap.size ≤ gb314) := ⟨h3_⟩
        have _ : Aside0 (w.heap.size ≤ gb314) := ⟨h4_⟩
        have _ : Aside0 (gb303 ≠ gb314) := ⟨h5_⟩
        have _ : Aside0 (gb314 ≠ gb303) := ⟨h6_⟩
        have _ : Aside0 (Below w.heap.size w w26) := ⟨h7_⟩
        clear HO_5 BK303 HB
        clear h0_ h1_ h2_ h3_ h4_ h5_ h6_ h7_
        rename_i HO_5 BK303 BK314 GW314 GE314 NB303_314 NB314_303 HB
        have hHeld : w26.cell? ⟨gb303, 0, none⟩ = some (.string a1_0) ∧ w26.cell? ⟨gb303, 1, none⟩ = some (.slice A1_1 l1_1.length c1_1) ∧ w26.cell? (ad307.add ((x6_1).toNat * 2)) = some (.string ((rd_T40 l0 x6_1).f0)) ∧ w26.cell? ⟨(ad307.add ((x6_1).toNat * 2)).block, (ad307.add ((x6_1).toNat * 2)).off + 1, none⟩ = some (.slice A307_1 ((rd_T40 l0 x6_1).f1).length c307_1) := hS_
        refine norm_ (a' := ?_) ?_ ?_
        rotate_left
        ·simp only [putAll, Act.put, List.setIfInBounds_toArray, List.set_cons_zero, List.set_cons_succ]
         rfl
        refine one_ (i := 10) (N := none) #[true, true, true, true, true, true, true, true, true, true, true, false] rfl rfl (one_of HT_.out (by kernel_rfl)) (by decide) (fun K hK => ?_)
        have hs27 : w26.cell? ⟨gb314, 0, none⟩ = some (.string (⟨#[]⟩ : ByteArray)) := (blk_cell BK314.out 0).trans rfl
        have hfs27 := blk_frozen BK314.out 0
        have hns27_0 := NB303_314.out
        have hms27_0 := NB314_303.out
        have hs28 : w26.cell? ⟨gb314, 1, none⟩ = some (.string (⟨#[]⟩ : ByteArray)) := (blk_cell BK314.out 1).trans rfl
        have hfs28 := blk_frozen BK314.out 1
        have hns28_0 := NB303_314.out
        have hms28_0 := NB314_303.out
        have hs29 : w26.cell? ⟨gb314, 2, none⟩ = some (.int .i64 0) := (blk_cell BK314.out 2).trans rfl
        have hfs29 := blk_frozen BK314.out 2
        have hns29_0 := NB303_314.out
        have hms29_0 := NB314_303.out
        have hs30 : w26.cell? ⟨gb314, 3, none⟩ = some (.int .i64 0) := (blk_cell BK314.out 3).trans rfl
        have hfs30 := blk_frozen BK314.out 3
        have hns30_0 := NB303_314.out
        have hms30_0 := NB314_303.out
        have hs31 : w26.cell? ⟨gb314, 4, none⟩ = some (.int .i64 0) := (blk_cell BK314.out 4).trans rfl
        have hfs31 := blk_frozen BK314.out 4
        have hns31_0 := NB303_314.out
        have hms31_0 := NB314_303.out
        refine skip_ (w1 := ?_) (by rfl) rfl ?_ ?_
        rotate_left
        ·go_simp
         rfl
        refine hK.out _ _ ⟨((cell_far (p := ⟨gb314, _, none⟩) NB303_314.out _).trans (((cell_far (p := ⟨gb314, _, none⟩) NB303_314.out _).trans (((cell_far (p := ⟨gb314, _, none⟩) NB303_314.out _).trans (((cell_far (p := ⟨gb314, _, none⟩) NB303_314.out _).trans (((cell_far (p := ⟨gb314, _, none⟩) NB303_314.out _).trans (hHeld.1)))))))))), ((cell_far (p := ⟨gb314, _, none⟩) NB303_314.out _).trans (((cell_far (p := ⟨gb314, _, none⟩) NB303_314.out _).trans (((cell_far (p := ⟨gb314, _, none⟩) NB303_314.out _).trans (((cell_far (p := ⟨gb314, _, none⟩) NB303_314.out _).trans (((cell_far (p := ⟨gb314, _, none⟩) NB303_314.out _).trans (hHeld.2.1)))))))))), ((cell_far (p := ⟨gb314, _, none⟩) (by first | exact Nat.ne_of_lt (Nat.lt_of_lt_of_le (by have := World.block_lt_of_cell? _ _ hw307_0; first | rwa [add_block] at this | exact this) GW314.out) | (rw [add_block]; exact Nat.ne_of_lt (Nat.lt_of_lt_of_le (by have := World.block_lt_of_cell? _ _ hw307_0; first | rwa [add_block] at this | exact this) GW314.out)) | (show (Addr.add _ _).block ≠ _; rw [add_block]; exact Nat.ne_of_lt (Nat.lt_of_lt_of_le (by have := World.block_lt_of_cell? _ _ hw307_0; first | rwa [add_block] at this | exact this) GW314.out)) | (dsimp only; exact Nat.ne_of_lt (Nat.lt_of_lt_of_le (by have := World.block_lt_of_cell? _ _ hw307_0; first | rwa [add_block] at this | exact this) GW314.out))) _).trans (((cell_far (p := ⟨gb314, _, none⟩) (by first | exact Nat.ne_of_lt (Nat.lt_of_lt_of_le (by have := World.block_lt_of_cell? _ _ hw307_0; first | rwa [add_block] at this | exact this) GW314.out) | (rw [add_block]; exact Nat.ne_of_lt (Nat.lt_of_lt_of_le (by have := World.block_lt_of_cell? _ _ hw307_0; first | rwa [add_block] at this | exact this) GW314.out)) | (show (Addr.add _ _).block ≠ _; rw [add_block]; exact Nat.ne_of_lt (Nat.lt_of_lt_of_le (by have := World.block_lt_of_cell? _ _ hw307_0; first | rwa [add_block] at this | exact this) GW314.out)) | (dsimp only; exact Nat.ne_of_lt (Nat.lt_of_lt_of_le (by have := World.block_lt_of_cell? _ _ hw307_0; first | rwa [add_block] at this | exact this) GW314.out))) _).trans (((cell_far (p := ⟨gb314, _, none⟩) (by first | exact Nat.ne_of_lt (Nat.lt_of_lt_of_le (by have := World.block_lt_of_cell? _ _ hw307_0; first | rwa [add_block] at this | exact this) GW314.out) | (rw [add_block]; exact Nat.ne_of_lt (Nat.lt_of_lt_of_le (by have := World.block_lt_of_cell? _ _ hw307_0; first | rwa [add_block] at this | exact this) GW314.out)) | (show (Addr.add _ _).block ≠ _; rw [add_block]; exact Nat.ne_of_lt (Nat.lt_of_lt_of_le (by have := World.block_lt_of_cell? _ _ hw307_0; first | rwa [add_block] at this | exact this) GW314.out)) | (dsimp only; exact Nat.ne_of_lt (Nat.lt_of_lt_of_le (by have := World.block_lt_of_cell? _ _ hw307_0; first | rwa [add_block] at this | exact this) GW314.out))) _).trans (((cell_far (p := ⟨gb314, _, none⟩) (by first | exact Nat.ne_of_lt (Nat.lt_of_lt_of_le (by have := World.block_lt_of_cell? _ _ hw307_0; first | rwa [add_block] at this | exact this) GW314.out) | (rw [add_block]; exact Nat.ne_of_lt (Nat.lt_of_lt_of_le (by have := World.block_lt_of_cell? _ _ hw307_0; first | rwa [add_block] at this | exact this) GW314.out)) | (show (Addr.add _ _).block ≠ _; rw [add_block]; exact Nat.ne_of_lt (Nat.lt_of_lt_of_le (by have := World.block_lt_of_cell? _ _ hw307_0; first | rwa [add_block] at this | exact this) GW314.out)) | (dsimp only; exact Nat.ne_of_lt (Nat.lt_of_lt_of_le (by have := World.block_lt_of_cell? _ _ hw307_0; first | rwa [add_block] at this | exact this) GW314.out))) _).trans (((cell_far (p := ⟨gb314, _, none⟩) (by first | exact Nat.ne_of_lt (Nat.lt_of_lt_of_le (by have := World.block_lt_of_cell? _ _ hw307_0; first | rwa [add_block] at this | exact this) GW314.out) | (rw [add_block]; exact Nat.ne_of_lt (Nat.lt_of_lt_of_le (by have := World.block_lt_of_cell? _ _ hw307_0; first | rwa [add_block] at this | exact this) GW314.out)) | (show (Addr.add _ _).block ≠ _; rw [add_block]; exact Nat.ne_of_lt (Nat.lt_of_lt_of_le (by have := World.block_lt_of_cell? _ _ hw307_0; first | rwa [add_block] at this | exact this) GW314.out)) | (dsimp only; exact Nat.ne_of_lt (Nat.lt_of_lt_of_le (by have := World.block_lt_of_cell? _ _ hw307_0; first | rwa [add_block] at this | exact this) GW314.out))) _).trans (hHeld.2.2.1)))))))))), ((cell_far (p := ⟨gb314, _, none⟩) (by first | exact Nat.ne_of_lt (Nat.lt_of_lt_of_le (by have := World.block_lt_of_cell? _ _ hw307_1; first | rwa [add_block] at this | exact this) GW314.out) | (rw [add_block]; exact Nat.ne_of_lt (Nat.lt_of_lt_of_le (by have := World.block_lt_of_cell? _ _ hw307_1; first | rwa [add_block] at this | exact this) GW314.out)) | (show (Addr.add _ _).block ≠ _; rw [add_block]; exact Nat.ne_of_lt (Nat.lt_of_lt_of_le (by have := World.block_lt_of_cell? _ _ hw307_1; first | rwa [add_block] at this | exact this) GW314.out)) | (dsimp only; exact Nat.ne_of_lt (Nat.lt_of_lt_of_le (by have := World.block_lt_of_cell? _ _ hw307_1; first | rwa [add_block] at this | exact this) GW314.out))) _).trans (((cell_far (p := ⟨gb314, _, none⟩) (by first | exact Nat.ne_of_lt (Nat.lt_of_lt_of_le (by have := World.block_lt_of_cell? _ _ hw307_1; first | rwa [add_block] at this | exact this) GW314.out) | (rw [add_block]; exact Nat.ne_of_lt (Nat.lt_of_lt_of_le (by have := World.block_lt_of_cell? _ _ hw307_1; first | rwa [add_block] at this | exact this) GW314.out)) | (show (Addr.add _ _).block ≠ _; rw [add_block]; exact Nat.ne_of_lt (Nat.lt_of_lt_of_le (by have := World.block_lt_of_cell? _ _ hw307_1; first | rwa [add_block] at this | exact this) GW314.out)) | (dsimp only; exact Nat.ne_of_lt (Nat.lt_of_lt_of_le (by have := World.block_lt_of_cell? _ _ hw307_1; first | rwa [add_block] at this | exact this) GW314.out))) _).trans (((cell_far (p := ⟨gb314, _, none⟩) (by first | exact Nat.ne_of_lt (Nat.lt_of_lt_of_le (by have := World.block_lt_of_cell? _ _ hw307_1; first | rwa [add_block] at this | exact this) GW314.out) | (rw [add_block]; exact Nat.ne_of_lt (Nat.lt_of_lt_of_le (by have := World.block_lt_of_cell? _ _ hw307_1; first | rwa [add_block] at this | exact this) GW314.out)) | (show (Addr.add _ _).block ≠ _; rw [add_block]; exact Nat.ne_of_lt (Nat.lt_of_lt_of_le (by have := World.block_lt_of_cell? _ _ hw307_1; first | rwa [add_block] at this | exact this) GW314.out)) | (dsimp only; exact Nat.ne_of_lt (Nat.lt_of_lt_of_le (by have := World.block_lt_of_cell? _ _ hw307_1; first | rwa [add_block] at this | exact this) GW314.out))) _).trans (((cell_far (p := ⟨gb314, _, none⟩) (by first | exact Nat.ne_of_lt (Nat.lt_of_lt_of_le (by have := World.block_lt_of_cell? _ _ hw307_1; first | rwa [add_block] at this | exact this) GW314.out) | (rw [add_block]; exact Nat.ne_of_lt (Nat.lt_of_lt_of_le (by have := World.block_lt_of_cell? _ _ hw307_1; first | rwa [add_block] at this | exact this) GW314.out)) | (show (Addr.add _ _).block ≠ _; rw [add_block]; exact Nat.ne_of_lt (Nat.lt_of_lt_of_le (by have := World.block_lt_of_cell? _ _ hw307_1; first | rwa [add_block] at this | exact this) GW314.out)) | (dsimp only; exact Nat.ne_of_lt (Nat.lt_of_lt_of_le (by have := World.block_lt_of_cell? _ _ hw307_1; first | rwa [add_block] at this | exact this) GW314.out))) _).trans (((cell_far (p := ⟨gb314, _, none⟩) (by first | exact Nat.ne_of_lt (Nat.lt_of_lt_of_le (by have := World.block_lt_of_cell? _ _ hw307_1; first | rwa [add_block] at this | exact this) GW314.out) | (rw [add_block]; exact Nat.ne_of_lt (Nat.lt_of_lt_of_le (by have := World.block_lt_of_cell? _ _ hw307_1; first | rwa [add_block] at this | exact this) GW314.out)) | (show (Addr.add _ _).block ≠ _; rw [add_block]; exact Nat.ne_of_lt (Nat.lt_of_lt_of_le (by have := World.block_lt_of_cell? _ _ hw307_1; first | rwa [add_block] at this | exact this) GW314.out)) | (dsimp only; exact Nat.ne_of_lt (Nat.lt_of_lt_of_le (by have := World.block_lt_of_cell? _ _ hw307_1; first | rwa [add_block] at this | exact this) GW314.out))) _).trans (hHeld.2.2.2))))))))))⟩ (fun hHeld => ?_)
        clear hK K
        refine pu 11 8 (bl 12 4095) ?_
        refine done_ (done_of HT_.out (by kernel_rfl)) ?_
        try go_wp2
        have n0 : Aside0 (Kd.R k49 49 (((((w26.setCell ⟨gb314, 0, none⟩ (.string t308)).setCell ⟨gb314, 1, none⟩ (.string t309)).setCell ⟨gb314, 2, none⟩ (.int .i64 t310)).setCell ⟨gb314, 3, none⟩ (.int .i64 t311)).setCell ⟨gb314, 4, none⟩ (.int .i64 t312)) w.heap.size (fun k_ => k_ ≠ gb314) u5 x5_1) := ⟨by (with_reducible repeat (first | apply Kd.R_alloc | apply Kd.R_drewN | apply Kd.R_drew)); exact Kd.R_mono (rf (Kd.R_mono HO_5.out (fun k_ hk => (⟨hk, hk⟩ : _ ∧ k_ ≠ gb314)))) (fun _ hk => hk.1)⟩
        have n1 : Aside0 ((((((w26.setCell ⟨gb314, 0, none⟩ (.string t308)).setCell ⟨gb314, 1, none⟩ (.string t309)).setCell ⟨gb314, 2, none⟩ (.int .i64 t310)).setCell ⟨gb314, 3, none⟩ (.int .i64 t311)).setCell ⟨gb314, 4, none⟩ (.int .i64 t312)).heap[gb303]? = some (.cells #[.string a1_0, .slice A1_1 l1_1.length c1_1] 40 (0, 0))) := ⟨bk BK303⟩
        have n2 : Aside0 ((((((w26.setCell ⟨gb314, 0, none⟩ (.string t308)).setCell ⟨gb314, 1, none⟩ (.string t309)).setCell ⟨gb314, 2, none⟩ (.int .i64 t310)).setCell ⟨gb314, 3, none⟩ (.int .i64 t311)).setCell ⟨gb314, 4, none⟩ (.int .i64 t312)).heap[gb314]? = some (.cells #[.string t308, .string t309, .int .i64 t310, .int .i64 t311, .int .i64 t312] 49 (0, 0))) := ⟨bp BK314⟩
        have n3 : Aside0 (Below w.heap.size w (((((w26.setCell ⟨gb314, 0, none⟩ (.string t308)).setCell ⟨gb314, 1, none⟩ (.string t309)).setCell ⟨gb314, 2, none⟩ (.int .i64 t310)).setCell ⟨gb314, 3, none⟩ (.int .i64 t311)).setCell ⟨gb314, 4, none⟩ (.int .i64 t312))) := ⟨bq⟩
        (try clear HO_5)
        (try clear BK303)
        (try clear BK314)
        (try clear HB)
        generalize (((((w26.setCell ⟨gb314, 0, none⟩ (.string t308)).setCell ⟨gb314, 1, none⟩ (.string t309)).setCell ⟨gb314, 2, none⟩ (.int .i64 t310)).setCell ⟨gb314, 3, none⟩ (.int .i64 t311)).setCell ⟨gb314, 4, none⟩ (.int .i64 t312)) = w32 at n0 n1 n2 n3 ⊢
        have HO_5 := n0
        have BK303 := n1
        have BK314 := n2
        have HB := n3
        clear n0 n1 n2 n3
        have _ := ra (Kd.R_drew HO_5.out)
        have _ := ra (blk_drew BK303.out)
        have _ := ra (blk_drew BK314.out)
        have _ := ra (below_drew1 HB.out)
        clear HO_5 BK303 BK314 HB
        rename_i HO_5 BK303 BK314 HB
        have p315 : 0 ≤ (x6_1 : Int) := od
        have q315 : x6_1 < (l0.length : Int) := od
        obtain ⟨ad315, A315_1, c315_1, e315, hx315_0, hx315_1, hl315_1, hi315_1⟩ := at_T40 HR0.out x6_1 p315 q315
        have hw315_1 := hx315_1
        have hw315_0 := hx315_0
        obtain rfl : ad307 = ad315 := (by injection e315)
        replace hx315_0 := hc HB hx315_0
        replace hx315_1 := hc HB hx315_1
        have HR315_1 := Aside0.mk hi315_1
        have HC315_1 := Aside0.mk hl315_1
        clear hi315_1 hl315_1
        replace p315 := eq_true p315
        replace q315 := eq_true q315
        refine start_ (n := 11) (S := fun w' => w'.cell? ⟨gb303, 0, none⟩ = some (.string a1_0) ∧ w'.cell? ⟨gb303, 1, none⟩ = some (.slice A1_1 l1_1.length c1_1) ∧ w'.cell? (ad307.add ((x6_1).toNat * 2)) = some (.string ((rd_T40 l0 x6_1).f0)) ∧ w'.cell? ⟨(ad307.add ((x6_1).toNat * 2)).block, (ad307.add ((x6_1).toNat * 2)).off + 1, none⟩ = some (.slice A315_1 ((rd_T40 l0 x6_1).f1).length c315_1)) (ds := []) (bl 11 0) (by kernel_rfl) rfl rfl ⟨(blk_cell BK303.out 0).trans rfl, (blk_cell BK303.out 1).trans rfl, (hc HB hw315_0), (hc HB hw315_1)⟩ (fun hHeld => ?_); refine with_tabW spec_l4With.tab6 spec_l4With.bits6 (fun HT_ HW_ => ?_)
        generalize w32.drew = w33 at HO_5 BK303 BK314 HB HR315_1 hx315_0 hx315_1 hHeld ⊢
        refine pu 0 25 (bl 11 1) ?_
        refine pu 1 26 (bl 11 3) ?_
        refine pu 2 27 (bl 11 7) ?_
        refine pu 3 28 (bl 11 15) ?_
        refine pu 4 29 (bl 11 31) ?_
        refine pu 5 30 (bl 11 63) ?_
        refine pu 7 32 (bl 11 191) ?_
        refine tk 6 31 (bl 11 255) ?_ hHeld
        refine tk 8 33 (bl 11 511) ?_ hHeld
        refine pu 9 34 (bl 11 1023) ?_
        refine pu 10 35 (bl 11 2047) ?_
        refine done_ (done_of HT_.out (by kernel_rfl)) ?_
        have hnb34 := NB314_303.out
        have hnc34 := NB303_314.out
        obtain ⟨hcz35_0, hcz35_1, hcz35_2, hcz35_3, hcz35_4, hfz35_0, hfz35_1, hfz35_2, hfz35_3, hfz35_4⟩ := zc5 BK314
        try go_wp2_with (first | ((with_reducible refine gate_builtin (b := .append) (xs := #[.tmp 36, .tmp 38]) rfl ?_); at_builtin; refine Kd.R_append k49 (w0 := w) w.heap.size rfl (.tmp 36) (.tmp 38) 24 49 (.agg #[(.string ⟨#[]⟩), (.string ⟨#[]⟩), (.int .i64 0), (.int .i64 0), (.int .i64 0)]) 56 rfl Try.underlying24 info49 rfl (by decide) (by omega) u5 x5_1 (⟨t308, t309, t310, t311, t312⟩ : S49) [.string t308, .string t309, .int .i64 t310, .int .i64 t311, .int .i64 t312] (fun k_ => k_ ≠ gb314) (fun _ => False) rfl rfl ?aP (fun _ hk => hk.elim) ?aF ?aO ?aB ?aS ?aL ?_; (case aP => exact k49_mkM _ _ _ (⟨t308, t309, t310, t311, t312⟩ : S49)); (case aB => exact bq); (case aF => exact (fun k_ hk => Kd.freshB (g := gb314) (o := .cells #[.string t308, .string t309, .int .i64 t310, .int .i64 t311, .int .i64 t312] 49 (0, 0)) (bk BK314) k_ hk)); (case aO => exact (rq HO_5)); (case aS => exact (below_size bq)); (case aL => have := LMc22.out; omega); intro v317 w36 ho hb hg hat; rw [← Ny316.out] at ho; have _ := ra (blk_grown (g := gb303) (o := .cells #[.string a1_0, .slice A1_1 l1_1.length c1_1] 40 (0, 0)) (bk BK303) hg (Kd.R_ne HO_5.out BK303.out (by decide))); have _ := ra (blk_grown (g := gb314) (o := .cells #[.string t308, .string t309, .int .i64 t310, .int .i64 t311, .int .i64 t312] 49 (0, 0)) (bk BK314) hg (Kd.R_away HO_5.out (fun _ hk => hk))); have _ := ra (hb); have _ := ra (ho); clear BK303 BK314 HB HO_5; rename_i BK303 BK314 HB HO318; clear ho hb hg hat))
        go_roundg k1
        case measure => have := HK1.out; omega
        case rel => exact ⟨(y316), (wrap64 (x6_1 + 1)), rs, H', ⟨by have := HK1.out; omega⟩, ⟨by (with_reducible repeat (first | apply Kd.R_alloc | apply Kd.R_drewN | apply Kd.R_drew)); exact Kd.R_mono HO318.out (fun _ hk => trivial)⟩, ⟨bk BK303⟩, ⟨bq⟩⟩
       ·rw [if_neg c22] at H
        exact absurd H (by simp)
     ·replace c9 := Bool.eq_false_iff.mpr c9
      subst c9
      have H1 : (spec_l4With.l0 k1 l0 x5_1 (wrap64 (x6_1 + 1)) a1_0 l1_1) = some r := by rw [if_neg (show ¬ (false = true) by decide)] at H; exact H
      clear H
      have H := H1
      clear H1
      have H' := Aside0.mk H
      clear H
      try go_wp2
      have _ := ra (Kd.R_drew HO_5.out)
      have _ := ra (blk_drew BK303.out)
      have _ := ra (below_drew1 HB.out)
      clear HO_5 BK303 HB
      rename_i HO_5 BK303 HB
      have p307 : 0 ≤ (x6_1 : Int) := od
      have q307 : x6_1 < (l0.length : Int) := od
      obtain ⟨ad307, A307_1, c307_1, e307, hx307_0, hx307_1, hl307_1, hi307_1⟩ := at_T40 HR0.out x6_1 p307 q307
      have hw307_1 := hx307_1
      have hw307_0 := hx307_0
      cases e307
      replace hx307_0 := hc HB hx307_0
      replace hx307_1 := hc HB hx307_1
      have HR307_1 := Aside0.mk hi307_1
      have HC307_1 := Aside0.mk hl307_1
      clear hi307_1 hl307_1
      replace p307 := eq_true p307
      replace q307 := eq_true q307
      refine start_ (n := 12) (S := fun w' => w'.cell? ⟨gb303, 0, none⟩ = some (.string a1_0) ∧ w'.cell? ⟨gb303, 1, none⟩ = some (.slice A1_1 l1_1.length c1_1) ∧ w'.cell? (ad307.add ((x6_1).toNat * 2)) = some (.string ((rd_T40 l0 x6_1).f0)) ∧ w'.cell? ⟨(ad307.add ((x6_1).toNat * 2)).block, (ad307.add ((x6_1).toNat * 2)).off + 1, none⟩ = some (.slice A307_1 ((rd_T40 l0 x6_1).f1).length c307_1)) (ds := []) (bl 12 0) (by kernel_rfl) rfl rfl ⟨(blk_cell BK303.out 0).trans rfl, (blk_cell BK303.out 1).trans rfl, (hc HB hw307_0), (hc HB hw307_1)⟩ (fun hHeld => ?_); refine with_tabW spec_l4With.tab5 spec_l4With.bits5 (fun HT_ HW_ => ?_)
      generalize wr.drew = w37 at HO_5 BK303 HB HR307_1 hx307_0 hx307_1 hHeld ⊢
      refine pu 1 18 (bl 12 2) ?_
      refine pu 2 19 (bl 12 6) ?_
      refine pu 3 20 (bl 12 14) ?_
      refine tk 0 17 (bl 12 15) ?_ hHeld
      refine tk 4 21 (bl 12 31) ?_ hHeld
      refine join_ (σ := Nat) 2 #[true, true, true, true, true, true, true, true, true, true, false, false] (fun s_ => [(22, .tuple #[.agg #[.string t308, .string t309, .int .i64 t310, .int .i64 t311, .int .i64 t312], .bool false]), (7, .pointer (some ⟨s_, 0, none⟩)), (16, .tuple #[.agg #[.string t308, .string t309, .int .i64 t310, .int .i64 t311, .int .i64 t312], .bool false]), (23, .agg #[.string t308, .string t309, .int .i64 t310, .int .i64 t311, .int .i64 t312]), (24, .bool false)]) (fun s_ w' => (w'.cell? ⟨gb303, 0, none⟩ = some (.string a1_0) ∧ w'.cell? ⟨gb303, 1, none⟩ = some (.slice A1_1 l1_1.length c1_1) ∧ w'.cell? (ad307.add ((x6_1).toNat * 2)) = some (.string ((rd_T40 l0 x6_1).f0)) ∧ w'.cell? ⟨(ad307.add ((x6_1).toNat * 2)).block, (ad307.add ((x6_1).toNat * 2)).off + 1, none⟩ = some (.slice A307_1 ((rd_T40 l0 x6_1).f1).length c307_1)) ∧ (Kd.R k49 49 w' w.heap.size (fun k_ => k_ ≠ s_) u5 x5_1) ∧ (w'.heap[gb303]? = some (.cells #[.string a1_0, .slice A1_1 l1_1.length c1_1] 40 (0, 0))) ∧ (w'.heap[s_]? = some (.cells #[.string (⟨#[]⟩ : ByteArray), .string (⟨#[]⟩ : ByteArray), .int .i64 0, .int .i64 0, .int .i64 0] 49 (0, 0))) ∧ (w.heap.size ≤ s_) ∧ (w.heap.size ≤ s_) ∧ (gb303 ≠ s_) ∧ (s_ ≠ gb303) ∧ (Below w.heap.size w w')) ?_ ?_
      rotate_left
      ·intro hCont
       refine two_ (i := 5) (j := 9) (Ni := some 22) (Nj := some 7) #[true, true, true, true, true, true, false, false, false, false, false, false] #[true, true, true, true, true, false, false, false, false, true, false, false] rfl rfl rfl rfl (two_of HT_.out (by kernel_rfl)) (by decide) (by decide) (fun K hK => ?_) (fun K hK => ?_)
       ·skip
        refine gs Try.func45 #[.agg #[.string a1_0, .slice A1_1 l1_1.length c1_1], .agg #[.string ((rd_T40 l0 x6_1).f0), .slice A307_1 ((rd_T40 l0 x6_1).f1).length c307_1]] ?_
        with_reducible refine (spec_l3Meet.calls k1 a1_0 _ _ l1_1 ((rd_T40 l0 x6_1).f0) _ _ ((rd_T40 l0 x6_1).f1) t308 t309 t310 t311 t312 false _ ?side1 ?side2 ?side3 ?side4 A8.out).mono ?_
        (case side1 => exact sc HR1_1)
        (case side2 => exact HC1_1.out)
        (case side3 => exact sc HR307_1)
        (case side4 => exact HC307_1.out)
        rintro e w38 ⟨rfl, hb⟩
        refine ⟨_, rfl, ?_⟩
        have _ := ra (Kd.R_below (rq HO_5) hb)
        have _ := bb (bk BK303) hb
        have _ := bs hb
        clear HO_5 BK303 HB
        rename_i HO_5 BK303 HB
        (try clear hb)
        (try clear hb2)
        (try clear hk)
        (try clear hi)
        refine hK.out _ _ ⟨(blk_cell BK303.out 0).trans rfl, (blk_cell BK303.out 1).trans rfl, (hc HB hw307_0), (hc HB hw307_1)⟩ (fun hHeld => ?_)
        clear hK K
        refine nm 22 ?_
        refine pu 6 16 (bl 12 127) ?_
        refine pu 7 23 (bl 12 255) ?_
        refine pu 8 24 (bl 12 511) ?_
        refine oe 9 7 (bl 12 1023) (fun K hK => ?_)
        refine box_step ?hg (N := 7) ?hd (cs := #[.string (⟨#[]⟩ : ByteArray), .string (⟨#[]⟩ : ByteArray), .int .i64 0, .int .i64 0, .int .i64 0]) (t := 49) ?hr ?_; (case hd => rfl); (case hg => rfl); (case hr => first | (go_simp; done) | (go_simp; rfl))
        intro gb314 hg w39 hbox hb
        have _ := ra (Kd.R_below (Kd.R_elderB (rq HO_5) gb314 (Nat.le_of_eq hg.symm)) hb)
        have _ := bb (bk BK303) hb
        have _ := bs hb
        have _ := ra (hbox)
        have _ := bz (w0 := w) hg
        have _ := bz (w0 := w) hg
        have _ := bn hg (bk BK303)
        have _ := bm hg (bk BK303)
        clear HO_5 BK303 HB
        rename_i HO_5 BK303 HB BK314 GW314 GE314 NB303_314 NB314_303
        clear hb hbox hg
        refine hK.out _ _ ⟨(blk_cell BK303.out 0).trans rfl, (blk_cell BK303.out 1).trans rfl, (hc HB hw307_0), (hc HB hw307_1)⟩ (fun hHeld => ?_)
        clear hK K
        refine nm 7 ?_
        exact norm_ (by simp only [putAll, Act.put, List.setIfInBounds_toArray, List.set_cons_zero, List.set_cons_succ]) (hCont (gb314) _ ⟨hHeld, (by (with_reducible repeat (first | apply Kd.R_alloc | apply Kd.R_drewN | apply Kd.R_drew)); exact Kd.R_mono HO_5.out (fun _ hk => hk.2)), (bk BK303), (bk BK314), GW314.out, GE314.out, NB303_314.out, NB314_303.out, bq⟩)
       ·skip
        refine box_step ?hg (N := 7) ?hd (cs := #[.string (⟨#[]⟩ : ByteArray), .string (⟨#[]⟩ : ByteArray), .int .i64 0, .int .i64 0, .int .i64 0]) (t := 49) ?hr ?_; (case hd => rfl); (case hg => rfl); (case hr => first | (go_simp; done) | (go_simp; rfl))
        intro gb314 hg w38 hbox hb
        have _ := ra (Kd.R_below (Kd.R_elderB (rq HO_5) gb314 (Nat.le_of_eq hg.symm)) hb)
        have _ := bb (bk BK303) hb
        have _ := bs hb
        have _ := ra (hbox)
        have _ := bz (w0 := w) hg
        have _ := bz (w0 := w) hg
        have _ := bn hg (bk BK303)
        have _ := bm hg (bk BK303)
        clear HO_5 BK303 HB
        rename_i HO_5 BK303 HB BK314 GW314 GE314 NB303_314 NB314_303
        clear hb hbox hg
        refine hK.out _ _ ⟨(blk_cell BK303.out 0).trans rfl, (blk_cell BK303.out 1).trans rfl, (hc HB hw307_0), (hc HB hw307_1)⟩ (fun hHeld => ?_)
        clear hK K
        refine nm 7 ?_
        refine oe 5 22 (bl 12 575) (fun K hK => ?_)
        refine gs Try.func45 #[.agg #[.string a1_0, .slice A1_1 l1_1.length c1_1], .agg #[.string ((rd_T40 l0 x6_1).f0), .slice A307_1 ((rd_T40 l0 x6_1).f1).length c307_1]] ?_
        with_reducible refine (spec_l3Meet.calls k1 a1_0 _ _ l1_1 ((rd_T40 l0 x6_1).f0) _ _ ((rd_T40 l0 x6_1).f1) t308 t309 t310 t311 t312 false _ ?side1 ?side2 ?side3 ?side4 A8.out).mono ?_
        (case side1 => exact sc HR1_1)
        (case side2 => exact HC1_1.out)
        (case side3 => exact sc HR307_1)
        (case side4 => exact HC307_1.out)
        rintro e w39 ⟨rfl, hb⟩
        refine ⟨_, rfl, ?_⟩
        have _ := ra (Kd.R_below (rq HO_5) hb)
        have _ := bb (bk BK303) hb
        have _ := bb (bk BK314) hb
        have _ := bs hb
        clear HO_5 BK303 BK314 HB
        rename_i HO_5 BK303 BK314 HB
        (try clear hb)
        (try clear hb2)
        (try clear hk)
        (try clear hi)
        refine hK.out _ _ ⟨(blk_cell BK303.out 0).trans rfl, (blk_cell BK303.out 1).trans rfl, (hc HB hw307_0), (hc HB hw307_1)⟩ (fun hHeld => ?_)
        clear hK K
        refine nm 22 ?_
        refine pu 6 16 (bl 12 639) ?_
        refine pu 7 23 (bl 12 767) ?_
        refine pu 8 24 (bl 12 1023) ?_
        exact norm_ (by simp only [putAll, Act.put, List.setIfInBounds_toArray, List.set_cons_zero, List.set_cons_succ]) (hCont (gb314) _ ⟨hHeld, (by (with_reducible repeat (first | apply Kd.R_alloc | apply Kd.R_drewN | apply Kd.R_drew)); exact Kd.R_mono HO_5.out (fun _ hk => hk.2)), (bk BK303), (bk BK314), GW314.out, GE314.out, NB303_314.out, NB314_303.out, bq⟩)
      rintro gb314 w40 ⟨hS_, h0_, h1_, h2_, h3_, h4_, h5_, h6_, h7_⟩
      have _ : Aside0 (Kd.R k49 49 w40 w.heap.size (fun k_ => k_ ≠ gb314) u5 x5_1) := ⟨h0_⟩
      have _ : Aside0 (w40.heap[gb303]? = some (.cells #[.string a1_0, .slice A1_1 l1_1.length c1_1] 40 (0, 0))) := ⟨h1_⟩
      have _ : Aside0 (w40.heap[gb314]? = some (.cells #[.string (⟨#[]⟩ : ByteArray), .string (⟨#[]⟩ : ByteArray), .int .i64 0, .int .i64 0, .int .i64 0] 49 (0, 0))) := ⟨h2_⟩
      have _ : Aside0 (w.heap.size ≤ gb314) := ⟨h3_⟩
      have _ : Aside0 (w.heap.size ≤ gb314) := ⟨h4_⟩
      have _ : Aside0 (gb303 ≠ gb314) := ⟨h5_⟩
      have _ : Aside0 (gb314 ≠ gb303) := ⟨h6_⟩
      have _ : Aside0 (Below w.heap.size w w40) := ⟨h7_⟩
      clear HO_5 BK303 HB
      clear h0_ h1_ h2_ h3_ h4_ h5_ h6_ h7_
      rename_i HO_5 BK303 BK314 GW314 GE314 NB303_314 NB314_303 HB
      have hHeld : w40.cell? ⟨gb303, 0, none⟩ = some (.string a1_0) ∧ w40.cell? ⟨gb303, 1, none⟩ = some (.slice A1_1 l1_1.length c1_1) ∧ w40.cell? (ad307.add ((x6_1).toNat * 2)) = some (.string ((rd_T40 l0 x6_1).f0)) ∧ w40.cell? ⟨(ad307.add ((x6_1).toNat * 2)).block, (ad307.add ((x6_1).toNat * 2)).off + 1, none⟩ = some (.slice A307_1 ((rd_T40 l0 x6_1).f1).length c307_1) := hS_
      refine norm_ (a' := ?_) ?_ ?_
      rotate_left
      ·simp only [putAll, Act.put, List.setIfInBounds_toArray, List.set_cons_zero, List.set_cons_succ]
       rfl
      refine one_ (i := 10) (N := none) #[true, true, true, true, true, true, true, true, true, true, true, false] rfl rfl (one_of HT_.out (by kernel_rfl)) (by decide) (fun K hK => ?_)
      have hs41 : w40.cell? ⟨gb314, 0, none⟩ = some (.string (⟨#[]⟩ : ByteArray)) := (blk_cell BK314.out 0).trans rfl
      have hfs41 := blk_frozen BK314.out 0
      have hns41_0 := NB303_314.out
      have hms41_0 := NB314_303.out
      have hs42 : w40.cell? ⟨gb314, 1, none⟩ = some (.string (⟨#[]⟩ : ByteArray)) := (blk_cell BK314.out 1).trans rfl
      have hfs42 := blk_frozen BK314.out 1
      have hns42_0 := NB303_314.out
      have hms42_0 := NB314_303.out
      have hs43 : w40.cell? ⟨gb314, 2, none⟩ = some (.int .i64 0) := (blk_cell BK314.out 2).trans rfl
      have hfs43 := blk_frozen BK314.out 2
      have hns43_0 := NB303_314.out
      have hms43_0 := NB314_303.out
      have hs44 : w40.cell? ⟨gb314, 3, none⟩ = some (.int .i64 0) := (blk_cell BK314.out 3).trans rfl
      have hfs44 := blk_frozen BK314.out 3
      have hns44_0 := NB303_314.out
      have hms44_0 := NB314_303.out
      have hs45 : w40.cell? ⟨gb314, 4, none⟩ = some (.int .i64 0) := (blk_cell BK314.out 4).trans rfl
      have hfs45 := blk_frozen BK314.out 4
      have hns45_0 := NB303_314.out
      have hms45_0 := NB314_303.out
      refine skip_ (w1 := ?_) (by rfl) rfl ?_ ?_
      rotate_left
      ·go_simp
       rfl
      refine hK.out _ _ ⟨((cell_far (p := ⟨gb314, _, none⟩) NB303_314.out _).trans (((cell_far (p := ⟨gb314, _, none⟩) NB303_314.out _).trans (((cell_far (p := ⟨gb314, _, none⟩) NB303_314.out _).trans (((cell_far (p := ⟨gb314, _, none⟩) NB303_314.out _).trans (((cell_far (p := ⟨gb314, _, none⟩) NB303_314.out _).trans (hHeld.1)))))))))), ((cell_far (p := ⟨gb314, _, none⟩) NB303_314.out _).trans (((cell_far (p := ⟨gb314, _, none⟩) NB303_314.out _).trans (((cell_far (p := ⟨gb314, _, none⟩) NB303_314.out _).trans (((cell_far (p := ⟨gb314, _, none⟩) NB303_314.out _).trans (((cell_far (p := ⟨gb314, _, none⟩) NB303_314.out _).trans (hHeld.2.1)))))))))), ((cell_far (p := ⟨gb314, _, none⟩) (by first | exact Nat.ne_of_lt (Nat.lt_of_lt_of_le (by have := World.block_lt_of_cell? _ _ hw307_0; first | rwa [add_block] at this | exact this) GW314.out) | (rw [add_block]; exact Nat.ne_of_lt (Nat.lt_of_lt_of_le (by have := World.block_lt_of_cell? _ _ hw307_0; first | rwa [add_block] at this | exact this) GW314.out)) | (show (Addr.add _ _).block ≠ _; rw [add_block]; exact Nat.ne_of_lt (Nat.lt_of_lt_of_le (by have := World.block_lt_of_cell? _ _ hw307_0; first | rwa [add_block] at this | exact this) GW314.out)) | (dsimp only; exact Nat.ne_of_lt (Nat.lt_of_lt_of_le (by have := World.block_lt_of_cell? _ _ hw307_0; first | rwa [add_block] at this | exact this) GW314.out))) _).trans (((cell_far (p := ⟨gb314, _, none⟩) (by first | exact Nat.ne_of_lt (Nat.lt_of_lt_of_le (by have := World.block_lt_of_cell? _ _ hw307_0; first | rwa [add_block] at this | exact this) GW314.out) | (rw [add_block]; exact Nat.ne_of_lt (Nat.lt_of_lt_of_le (by have := World.block_lt_of_cell? _ _ hw307_0; first | rwa [add_block] at this | exact this) GW314.out)) | (show (Addr.add _ _).block ≠ _; rw [add_block]; exact Nat.ne_of_lt (Nat.lt_of_lt_of_le (by have := World.block_lt_of_cell? _ _ hw307_0; first | rwa [add_block] at this | exact this) GW314.out)) | (dsimp only; exact Nat.ne_of_lt (Nat.lt_of_lt_of_le (by have := World.block_lt_of_cell? _ _ hw307_0; first | rwa [add_block] at this | exact this) GW314.out))) _).trans (((cell_far (p := ⟨gb314, _, none⟩) (by first | exact Nat.ne_of_lt (Nat.lt_of_lt_of_le (by have := World.block_lt_of_cell? _ _ hw307_0; first | rwa [add_block] at this | exact this) GW314.out) | (rw [add_block]; exact Nat.ne_of_lt (Nat.lt_of_lt_of_le (by have := World.block_lt_of_cell? _ _ hw307_0; first | rwa [add_block] at this | exact this) GW314.out)) | (show (Addr.add _ _).block ≠ _; rw [add_block]; exact Nat.ne_of_lt (Nat.lt_of_lt_of_le (by have := World.block_lt_of_cell? _ _ hw307_0; first | rwa [add_block] at this | exact this) GW314.out)) | (dsimp only; exact Nat.ne_of_lt (Nat.lt_of_lt_of_le (by have := World.block_lt_of_cell? _ _ hw307_0; first | rwa [add_block] at this | exact this) GW314.out))) _).trans (((cell_far (p := ⟨gb314, _, none⟩) (by first | exact Nat.ne_of_lt (Nat.lt_of_lt_of_le (by have := World.block_lt_of_cell? _ _ hw307_0; first | rwa [add_block] at this | exact this) GW314.out) | (rw [add_block]; exact Nat.ne_of_lt (Nat.lt_of_lt_of_le (by have := World.block_lt_of_cell? _ _ hw307_0; first | rwa [add_block] at this | exact this) GW314.out)) | (show (Addr.add _ _).block ≠ _; rw [add_block]; exact Nat.ne_of_lt (Nat.lt_of_lt_of_le (by have := World.block_lt_of_cell? _ _ hw307_0; first | rwa [add_block] at this | exact this) GW314.out)) | (dsimp only; exact Nat.ne_of_lt (Nat.lt_of_lt_of_le (by have := World.block_lt_of_cell? _ _ hw307_0; first | rwa [add_block] at this | exact this) GW314.out))) _).trans (((cell_far (p := ⟨gb314, _, none⟩) (by first | exact Nat.ne_of_lt (Nat.lt_of_lt_of_le (by have := World.block_lt_of_cell? _ _ hw307_0; first | rwa [add_block] at this | exact this) GW314.out) | (rw [add_block]; exact Nat.ne_of_lt (Nat.lt_of_lt_of_le (by have := World.block_lt_of_cell? _ _ hw307_0; first | rwa [add_block] at this | exact this) GW314.out)) | (show (Addr.add _ _).block ≠ _; rw [add_block]; exact Nat.ne_of_lt (Nat.lt_of_lt_of_le (by have := World.block_lt_of_cell? _ _ hw307_0; first | rwa [add_block] at this | exact this) GW314.out)) | (dsimp only; exact Nat.ne_of_lt (Nat.lt_of_lt_of_le (by have := World.block_lt_of_cell? _ _ hw307_0; first | rwa [add_block] at this | exact this) GW314.out))) _).trans (hHeld.2.2.1)))))))))), ((cell_far (p := ⟨gb314, _, none⟩) (by first | exact Nat.ne_of_lt (Nat.lt_of_lt_of_le (by have := World.block_lt_of_cell? _ _ hw307_1; first | rwa [add_block] at this | exact this) GW314.out) | (rw [add_block]; exact Nat.ne_of_lt (Nat.lt_of_lt_of_le (by have := World.block_lt_of_cell? _ _ hw307_1; first | rwa [add_block] at this | exact this) GW314.out)) | (show (Addr.add _ _).block ≠ _; rw [add_block]; exact Nat.ne_of_lt (Nat.lt_of_lt_of_le (by have := World.block_lt_of_cell? _ _ hw307_1; first | rwa [add_block] at this | exact this) GW314.out)) | (dsimp only; exact Nat.ne_of_lt (Nat.lt_of_lt_of_le (by have := World.block_lt_of_cell? _ _ hw307_1; first | rwa [add_block] at this | exact this) GW314.out))) _).trans (((cell_far (p := ⟨gb314, _, none⟩) (by first | exact Nat.ne_of_lt (Nat.lt_of_lt_of_le (by have := World.block_lt_of_cell? _ _ hw307_1; first | rwa [add_block] at this | exact this) GW314.out) | (rw [add_block]; exact Nat.ne_of_lt (Nat.lt_of_lt_of_le (by have := World.block_lt_of_cell? _ _ hw307_1; first | rwa [add_block] at this | exact this) GW314.out)) | (show (Addr.add _ _).block ≠ _; rw [add_block]; exact Nat.ne_of_lt (Nat.lt_of_lt_of_le (by have := World.block_lt_of_cell? _ _ hw307_1; first | rwa [add_block] at this | exact this) GW314.out)) | (dsimp only; exact Nat.ne_of_lt (Nat.lt_of_lt_of_le (by have := World.block_lt_of_cell? _ _ hw307_1; first | rwa [add_block] at this | exact this) GW314.out))) _).trans (((cell_far (p := ⟨gb314, _, none⟩) (by first | exact Nat.ne_of_lt (Nat.lt_of_lt_of_le (by have := World.block_lt_of_cell? _ _ hw307_1; first | rwa [add_block] at this | exact this) GW314.out) | (rw [add_block]; exact Nat.ne_of_lt (Nat.lt_of_lt_of_le (by have := World.block_lt_of_cell? _ _ hw307_1; first | rwa [add_block] at this | exact this) GW314.out)) | (show (Addr.add _ _).block ≠ _; rw [add_block]; exact Nat.ne_of_lt (Nat.lt_of_lt_of_le (by have := World.block_lt_of_cell? _ _ hw307_1; first | rwa [add_block] at this | exact this) GW314.out)) | (dsimp only; exact Nat.ne_of_lt (Nat.lt_of_lt_of_le (by have := World.block_lt_of_cell? _ _ hw307_1; first | rwa [add_block] at this | exact this) GW314.out))) _).trans (((cell_far (p := ⟨gb314, _, none⟩) (by first | exact Nat.ne_of_lt (Nat.lt_of_lt_of_le (by have := World.block_lt_of_cell? _ _ hw307_1; first | rwa [add_block] at this | exact this) GW314.out) | (rw [add_block]; exact Nat.ne_of_lt (Nat.lt_of_lt_of_le (by have := World.block_lt_of_cell? _ _ hw307_1; first | rwa [add_block] at this | exact this) GW314.out)) | (show (Addr.add _ _).block ≠ _; rw [add_block]; exact Nat.ne_of_lt (Nat.lt_of_lt_of_le (by have := World.block_lt_of_cell? _ _ hw307_1; first | rwa [add_block] at this | exact this) GW314.out)) | (dsimp only; exact Nat.ne_of_lt (Nat.lt_of_lt_of_le (by have := World.block_lt_of_cell? _ _ hw307_1; first | rwa [add_block] at this | exact this) GW314.out))) _).trans (((cell_far (p := ⟨gb314, _, none⟩) (by first | exact Nat.ne_of_lt (Nat.lt_of_lt_of_le (by have := World.block_lt_of_cell? _ _ hw307_1; first | rwa [add_block] at this | exact this) GW314.out) | (rw [add_block]; exact Nat.ne_of_lt (Nat.lt_of_lt_of_le (by have := World.block_lt_of_cell? _ _ hw307_1; first | rwa [add_block] at this | exact this) GW314.out)) | (show (Addr.add _ _).block ≠ _; rw [add_block]; exact Nat.ne_of_lt (Nat.lt_of_lt_of_le (by have := World.block_lt_of_cell? _ _ hw307_1; first | rwa [add_block] at this | exact this) GW314.out)) | (dsimp only; exact Nat.ne_of_lt (Nat.lt_of_lt_of_le (by have := World.block_lt_of_cell? _ _ hw307_1; first | rwa [add_block] at this | exact this) GW314.out))) _).trans (hHeld.2.2.2))))))))))⟩ (fun hHeld => ?_)
      clear hK K
      refine pu 11 8 (bl 12 4095) ?_
      refine done_ (done_of HT_.out (by kernel_rfl)) ?_
      try go_wp2
      have n0 : Aside0 (Kd.R k49 49 (((((w40.setCell ⟨gb314, 0, none⟩ (.string t308)).setCell ⟨gb314, 1, none⟩ (.string t309)).setCell ⟨gb314, 2, none⟩ (.int .i64 t310)).setCell ⟨gb314, 3, none⟩ (.int .i64 t311)).setCell ⟨gb314, 4, none⟩ (.int .i64 t312)) w.heap.size (fun k_ => k_ ≠ gb314) u5 x5_1) := ⟨by (with_reducible repeat (first | apply Kd.R_alloc | apply Kd.R_drewN | apply Kd.R_drew)); exact Kd.R_mono (rf (Kd.R_mono HO_5.out (fun k_ hk => (⟨hk, hk⟩ : _ ∧ k_ ≠ gb314)))) (fun _ hk => hk.1)⟩
      have n1 : Aside0 ((((((w40.setCell ⟨gb314, 0, none⟩ (.string t308)).setCell ⟨gb314, 1, none⟩ (.string t309)).setCell ⟨gb314, 2, none⟩ (.int .i64 t310)).setCell ⟨gb314, 3, none⟩ (.int .i64 t311)).setCell ⟨gb314, 4, none⟩ (.int .i64 t312)).heap[gb303]? = some (.cells #[.string a1_0, .slice A1_1 l1_1.length c1_1] 40 (0, 0))) := ⟨bk BK303⟩
      have n2 : Aside0 ((((((w40.setCell ⟨gb314, 0, none⟩ (.string t308)).setCell ⟨gb314, 1, none⟩ (.string t309)).setCell ⟨gb314, 2, none⟩ (.int .i64 t310)).setCell ⟨gb314, 3, none⟩ (.int .i64 t311)).setCell ⟨gb314, 4, none⟩ (.int .i64 t312)).heap[gb314]? = some (.cells #[.string t308, .string t309, .int .i64 t310, .int .i64 t311, .int .i64 t312] 49 (0, 0))) := ⟨bp BK314⟩
      have n3 : Aside0 (Below w.heap.size w (((((w40.setCell ⟨gb314, 0, none⟩ (.string t308)).setCell ⟨gb314, 1, none⟩ (.string t309)).setCell ⟨gb314, 2, none⟩ (.int .i64 t310)).setCell ⟨gb314, 3, none⟩ (.int .i64 t311)).setCell ⟨gb314, 4, none⟩ (.int .i64 t312))) := ⟨bq⟩
      (try clear HO_5)
      (try clear BK303)
      (try clear BK314)
      (try clear HB)
      generalize (((((w40.setCell ⟨gb314, 0, none⟩ (.string t308)).setCell ⟨gb314, 1, none⟩ (.string t309)).setCell ⟨gb314, 2, none⟩ (.int .i64 t310)).setCell ⟨gb314, 3, none⟩ (.int .i64 t311)).setCell ⟨gb314, 4, none⟩ (.int .i64 t312)) = w46 at n0 n1 n2 n3 ⊢
      have HO_5 := n0
      have BK303 := n1
      have BK314 := n2
      have HB := n3
      clear n0 n1 n2 n3
      have _ := ra (Kd.R_drew HO_5.out)
      have _ := ra (blk_drew BK303.out)
      have _ := ra (blk_drew BK314.out)
      have _ := ra (below_drew1 HB.out)
      clear HO_5 BK303 BK314 HB
      rename_i HO_5 BK303 BK314 HB
      refine start_ (n := 11) (S := fun w' => True) (ds := []) (bl 11 0) (by kernel_rfl) rfl rfl trivial (fun hHeld => ?_); refine with_tabW spec_l4With.tab6 spec_l4With.bits6 (fun HT_ HW_ => ?_)
      generalize w46.drew = w47 at HO_5 BK303 BK314 HB hHeld ⊢
      refine pu 0 25 (bl 11 1) ?_
      refine pu 1 26 (bl 11 3) ?_
      refine pv 2 27 (bl 11 7) ?_
      refine pv 3 28 (bl 11 15) ?_
      refine pv 4 29 (bl 11 31) ?_
      refine pv 5 30 (bl 11 63) ?_
      refine pv 6 31 (bl 11 127) ?_
      refine pv 7 32 (bl 11 255) ?_
      refine pv 8 33 (bl 11 511) ?_
      refine pv 9 34 (bl 11 1023) ?_
      refine pu 10 35 (bl 11 2047) ?_
      refine done_ (done_of HT_.out (by kernel_rfl)) ?_
      try go_wp2
      go_roundg k1
      case measure => have := HK1.out; omega
      case rel => exact ⟨(x5_1), (wrap64 (x6_1 + 1)), rs, H', ⟨by have := HK1.out; omega⟩, ⟨by (with_reducible repeat (first | apply Kd.R_alloc | apply Kd.R_drewN | apply Kd.R_drew)); exact Kd.R_mono HO_5.out (fun _ hk => trivial)⟩, ⟨bk BK303⟩, ⟨bq⟩⟩
    ·rw [if_neg c7] at H
     exact absurd H (by simp)
   ·rw [if_neg c6] at H
    have c6b0 : decide (x6_1 < (l0.length : Int)) = false := decide_eq_false c6
    clear c6
    obtain rfl := Option.some.inj H
    go_wp2
    go_ret
    exact ⟨_, re, rq HO_5, bq⟩
end Go.Proofs.Ytdbomnhdpniigaa.PA
