/- Contracts of the functions spec_DrawProbeCut. (Began as a print of the kit's tool.) -/
import Derived.Test.YtfoapgcnjnogiaaPAd
import Derived.Test.YtfoapgcnjnogiaaCx
import Derived.Test.YtfoapgcnjnogiaaCz
import Derived.Test.YtfoapgcnjnogiaaCy
import Derived.Test.YtfoapgcnjnogiaaGDrawA
import Derived.Test.YtfoapgcnjnogiaaGDrawB
import Derived.Test.YtfoapgcnjnogiaaGDrawA
namespace Go.Proofs.Ytfoapgcnjnogiaa.PA
open Go.RowKit Go.Proofs.YtfoapgcnjnogiaaW.PrintWords Go.Proofs.YtfoapgcnjnogiaaW.PrintLast Go.Proofs.YtfoapgcnjnogiaaW.PrintMore Go.Proofs.Ytfoapgcnjnogiaa.Z
attribute [local go_sem] max2_int min2_int max_two min_two max_three min_three max_four min_four
set_option linter.unusedVariables false
set_option linter.unusedSimpArgs false
attribute [local go_sem high] eqA26
def spec_DrawProbeCut.T3 : Bool × List (List Nat × List Nat) := (true, [([], []), ([], []), ([1], [1]), ([], []), ([3, 2], [3]), ([2, 4], [2, 4]), ([], []), ([6, 4], [6]), ([5, 7], [5, 7]), ([8], [8]), ([0, 7, 0], [0]), ([9, 10, 0, 1, 2, 3, 4, 5, 6, 7, 8, 9, 10], [9])])
def spec_DrawProbeCut.B3 : List Nat := [0, 0, 2, 0, 14, 30, 0, 94, 254, 510, 223, 2047]
theorem spec_DrawProbeCut.tab3 : rtab .any (opsOf Try.f41 3) = spec_DrawProbeCut.T3 := by kernel_rfl
theorem spec_DrawProbeCut.bits3 : waitsOk spec_DrawProbeCut.T3.2 spec_DrawProbeCut.B3 = true := by kernel_rfl
set_option maxHeartbeats 8000000 in
set_option maxRecDepth 100000 in
theorem spec_DrawProbeCut.calls (k : Nat) (A0 : Option Addr) (c0 : Nat) (l0 : List Int) (r1 : ByteArray) (r2 : List (S26)) (r3 : Int) (w : World) (hr0 : Kd.C (Kd.int .u8) w A0 l0.length l0) (hc0 : l0.length ≤ c0) (h : spec_DrawProbeCut.f k l0 = some (r1, r2, r3)) :
  Calls Try.prog 41 #[.slice A0 l0.length c0] w fun e w' => ∃ v1_ : Value, e = .returned (.tuple #[.agg #[.string r1, v1_], .int .i64 r3]) ∧ Kd.R k26 26 w' w.heap.size (fun _ => True) v1_ r2 ∧ Below w.heap.size w w' := by
 have hu39 := Try.underlying39
 have HR0 := Aside0.mk hr0
 have HC0 := Aside0.mk hc0
 clear hr0 hc0
 have HB := ra (Below.refl w.heap.size w)
 have H : ((spec_l1Open.f l0).bind fun bt739 => ((spec_l2Any.f k bt739.1 bt739.2).bind fun bt742 => ((spec_l1Rd_pick.f k bt739.1 bt742.2.2 80).bind fun bt748 => ((spec_l1Rd_pick.f k bt739.1 bt748.2 80).bind fun bt750 => ((some (([bt748.1, bt750.1, (-1), 0, 10000, 9223372036854775807] : List Int) : List Int)).bind fun y752 => ((spec_l1Rd_pick.f k bt739.1 bt750.2 6).bind fun bt755 => (if 0 ≤ bt755.1 then (if bt755.1 < (y752.length : Int) then (some (bt742.1, bt742.2.1, rd y752 bt755.1)) else (none)) else (none)))))))) = some (r1, r2, r3) := h
 clear h
 obtain ⟨⟨t739, t740⟩, A2, H⟩ := bo H
 try dsimp only at H
 obtain ⟨⟨t742, t743, t746⟩, A3, H⟩ := bo H
 try dsimp only at H
 obtain ⟨⟨t748, t749⟩, A4, H⟩ := bo H
 try dsimp only at H
 obtain ⟨⟨t750, t751⟩, A5, H⟩ := bo H
 try dsimp only at H
 obtain ⟨y752, hy_⟩ : ∃ y_ : List Int, y_ = (([t748, t750, (-1), 0, 10000, 9223372036854775807] : List Int)) := ⟨_, rfl⟩
 replace H : ((spec_l1Rd_pick.f k t739 t751 6).bind fun bt755 => (if 0 ≤ bt755.1 then (if bt755.1 < (y752.length : Int) then (some (t742, t743, rd y752 bt755.1)) else (none)) else (none))) = some (r1, r2, r3) := yh
 have Ny752 := ra hy_
 clear hy_
 obtain ⟨⟨t755, t756⟩, A6, H⟩ := bo H
 try dsimp only at H
 by_cases c7 : 0 ≤ t755
 ·rw [if_pos c7] at H
  have c7b0 : decide (0 ≤ t755) = true := decide_eq_true c7
  clear c7
  by_cases c8 : t755 < (y752.length : Int)
  ·rw [if_pos c8] at H
   have c8b0 : decide (t755 < (y752.length : Int)) = true := decide_eq_true c8
   clear c8
   simp only [Option.some.injEq, Prod.mk.injEq] at H
   obtain ⟨rfl, rfl, rfl⟩ := H
   go_enter Try.func41, Try.ntmps41
   try go_wp2_with (first | ((with_reducible refine gate_dst (N := 2) rfl ?_); refine be 2 #[.string (⟨#[]⟩ : ByteArray), .slice none 0 0] 39 ?_; intro gb738 hg w9 hbox hb; have _ := bs hb; have _ := ra (hbox); have _ := bz (w0 := w) hg; have _ := bz (w0 := w) hg; clear HB; rename_i HB BK738 GW738 GE738; clear hb hbox hg) | ((with_reducible refine gate_callee (f := 63) rfl ?_); refine gl (some 7) Try.func63 #[.slice A0 l0.length c0] ?_; (with_reducible refine (spec_l1Open.calls _ _ l0 t739 t740 w _ ?side1 ?side2 ?side3 A2.out).mono ?_); (case side1 => repeat (first | (with_reducible first | exact HB.out | apply below_alloc | apply pw_below_drewN | apply below_drew1 | refine below_set ?_ GE738.out) | exact HB.out)); (case side2 => exact HR0.out); (case side3 => exact HC0.out); rintro e w10 ⟨g741, rfl, hi, hb, hb2⟩; refine ⟨_, rfl, ?_⟩; have _ := bb (bk BK738) hb2; have _ := ra (hb); have _ := ra (hi); have _ := ra (IsS90.ne_blk hi (blk_below (g := gb738) (o := .cells #[.string (⟨#[]⟩ : ByteArray), .slice none 0 0] 39 (0, 0)) (bk BK738) hb2) (by decide)); have _ := ra (Ne.symm (IsS90.ne_blk hi (blk_below (g := gb738) (o := .cells #[.string (⟨#[]⟩ : ByteArray), .slice none 0 0] 39 (0, 0)) (bk BK738) hb2) (by decide))); clear BK738 HB; rename_i BK738 HB HI741 NB741_738 NB738_741; (try clear hb); (try clear hb2); (try clear hk); (try clear hi)) | ((with_reducible refine gate_callee (f := 64) rfl ?_); refine gl (some 9) Try.func64 #[.pointer (some ⟨g741, 0, none⟩)] ?_; (with_reducible refine (spec_l2Any.calls k g741 t739 t740 t742 t743 t746 w _ ?side1 ?side2 A3.out).mono ?_); (case side1 => exact qi HI741); (case side2 => exact qb HI741 HB); rintro e w11 ⟨v744, rfl, ho0, hi, hb, hk⟩; refine ⟨_, rfl, ?_⟩; have _ := kv hk (bk BK738) NB738_741; have _ := ra (Kd.R_lower ho0 (below_size (qb HI741 HB))); have _ := ra (hb); have _ := ra (hi); clear BK738 HB HI741; rename_i BK738 HO745 HB HI741; (try clear hb); (try clear hb2); (try clear hk); (try clear hi); (try clear ho0)) | ((with_reducible refine gate_dst (N := 5) rfl ?_); refine be 5 #[.string (⟨#[]⟩ : ByteArray), .slice none 0 0] 39 ?_; intro gb747 hg w12 hbox hb; have _ := ra (Kd.R_below (rq HO745) hb); have _ := bb (bk BK738) hb; have _ := ra (IsS90.below (qi HI741) hb); have _ := ra (below_step (qb HI741 HB) hb); have _ := ra (hbox); have _ := ra ((by rw [hg]; exact (below_size (qb HI741 HB)) : w.heap.size ≤ gb747)); have _ := ra ((by rw [hg]; exact (below_size (qb HI741 HB)) : w.heap.size ≤ gb747)); have _ := bn hg (bk BK738); have _ := bm hg (bk BK738); have _ := ra ((by rw [hg]; exact Nat.ne_of_lt (IsS90.lt (show IsS90 w _ g741 t739 t746 from qi HI741)) : g741 ≠ gb747)); have _ := ra ((by rw [hg]; exact Nat.ne_of_gt (IsS90.lt (show IsS90 w _ g741 t739 t746 from qi HI741)) : gb747 ≠ g741)); clear HO745 BK738 HI741 HB; rename_i HO745 BK738 HI741 HB BK747 GW747 GE747 NB738_747 NB747_738 NB741_747 NB747_741; clear hb hbox hg; have hnb13 := NB747_738.out; have hnc13 := NB738_747.out; have hnb14 := NB747_741.out; have hnc14 := NB741_747.out; obtain ⟨hcz15_0, hcz15_1, hfz15_0, hfz15_1⟩ := zc2 BK747; obtain ⟨Ao16, co16, eo16⟩ := Kd.R_slice HO745.out; subst eo16))
   have pi757 : (0 ≤ (t755 : Int)) = True := eq_true (od)
   have qi757 : (t755 < (y752.length : Int)) = True := eq_true (od)
   have n0 : Aside0 (Kd.R k26 26 ((w12.setCell ⟨gb747, 0, none⟩ (.string t742)).setCell ⟨gb747, 1, none⟩ (.slice Ao16 t743.length co16)) w.heap.size (fun _ => True) (.slice Ao16 t743.length co16) t743) := ⟨by (with_reducible repeat (first | apply Kd.R_alloc | apply Kd.R_drewN | apply Kd.R_drew)); exact Kd.R_mono (rf (Kd.R_types HO745.out BK747.out (by decide))) (fun _ hk => trivial)⟩
   have n1 : Aside0 (((w12.setCell ⟨gb747, 0, none⟩ (.string t742)).setCell ⟨gb747, 1, none⟩ (.slice Ao16 t743.length co16)).heap[gb738]? = some (.cells #[.string (⟨#[]⟩ : ByteArray), .slice none 0 0] 39 (0, 0))) := ⟨bk BK738⟩
   have n2 : Aside0 (((w12.setCell ⟨gb747, 0, none⟩ (.string t742)).setCell ⟨gb747, 1, none⟩ (.slice Ao16 t743.length co16)).heap[gb747]? = some (.cells #[.string t742, .slice Ao16 t743.length co16] 39 (0, 0))) := ⟨bp BK747⟩
   have n3 : Aside0 (IsS90 w ((w12.setCell ⟨gb747, 0, none⟩ (.string t742)).setCell ⟨gb747, 1, none⟩ (.slice Ao16 t743.length co16)) g741 t739 t746) := ⟨by exact qi HI741⟩
   have n4 : Aside0 (Below w.heap.size w ((w12.setCell ⟨gb747, 0, none⟩ (.string t742)).setCell ⟨gb747, 1, none⟩ (.slice Ao16 t743.length co16))) := ⟨by exact qb HI741 HB⟩
   (try clear HO745)
   (try clear BK738)
   (try clear BK747)
   (try clear HI741)
   (try clear HB)
   generalize ((w12.setCell ⟨gb747, 0, none⟩ (.string t742)).setCell ⟨gb747, 1, none⟩ (.slice Ao16 t743.length co16)) = w17 at n0 n1 n2 n3 n4 ⊢
   have HO745 := n0
   have BK738 := n1
   have BK747 := n2
   have HI741 := n3
   have HB := n4
   clear n0 n1 n2 n3 n4
   have _ := ra (Kd.R_drew HO745.out)
   have _ := ra (blk_drew BK738.out)
   have _ := ra (blk_drew BK747.out)
   have _ := ra (IsS90.drew HI741.out)
   have _ := ra (below_drew1 HB.out)
   clear HO745 BK738 BK747 HI741 HB
   rename_i HO745 BK738 BK747 HI741 HB
   refine start_ (n := 12) (S := fun w' => True) (ds := []) (bl 12 0) (by kernel_rfl) rfl rfl trivial (fun hHeld => ?_); refine with_tabW spec_DrawProbeCut.tab3 spec_DrawProbeCut.bits3 (fun HT_ HW_ => ?_)
   generalize w17.drew = w18 at HO745 BK738 BK747 HI741 HB hHeld ⊢
   refine pu 1 11 (bl 12 2) ?_
   refine pu 3 13 (bl 12 10) ?_
   refine pu 6 16 (bl 12 74) ?_
   refine inv_at [0, 2, 4, 5, 7, 8, 9, 10, 11] (fun a0_ b a w' => ∃ (v753 : Value) (adz_v753 : Addr) (m8_ : Value), a = putSel a0_ b [(0, 10, .agg #[.string t742, .slice Ao16 t743.length co16]), (2, 12, .int .i64 t748), (4, 14, .int .i64 t750), (5, 15, v753), (7, 17, .int .i64 t755), (8, 18, m8_), (9, 19, .int .i64 (rd y752 t755)), (11, 3, .int .i64 (rd y752 t755))] ∧ (Kd.R k26 26 w' w.heap.size (fun _ => True) (.slice Ao16 t743.length co16) t743) ∧ (b 10 = false → w'.heap[gb738]? = some (.cells #[.string (⟨#[]⟩ : ByteArray), .slice none 0 0] 39 (0, 0))) ∧ (w'.heap[gb747]? = some (.cells #[.string t742, .slice Ao16 t743.length co16] 39 (0, 0))) ∧ (b 2 = false → IsS90 w w' g741 t739 t746) ∧ (Below w.heap.size w w') ∧ (b 2 = true → b 4 = false → IsS90 w w' g741 t739 t749) ∧ (b 4 = true → b 7 = false → IsS90 w w' g741 t739 t751) ∧ (b 5 = true → Kd.R (Kd.int .i64) 3 w' w.heap.size (fun _ => True) v753 y752) ∧ (b 5 = true → ∃ c_, (v753 : Value) = .slice (some adz_v753) y752.length c_) ∧ (b 7 = true → IsS90 w w' g741 t739 t756) ∧ (b 10 = true → w'.heap[gb738]? = some (.cells #[.string t742, .slice Ao16 t743.length co16] 39 (0, 0))) ∧ (b 8 = true → (m8_ : Value) = .pointer (some (adz_v753.add (t755).toNat)))) HT_.out HW_.out (by kernel_rfl) (by kernel_rfl) ?_ ?_ ?_
   ·exact ⟨.bool false, ⟨0, 0, none⟩, .bool false, by simp only [putSel, Bool.false_eq_true, if_false], HO745.out, fun _ => BK738.out, BK747.out, fun _ => HI741.out, HB.out, fun h_ => absurd h_ (by decide), fun h_ => absurd h_ (by decide), fun h_ => absurd h_ (by decide), fun h_ => absurd h_ (by decide), fun h_ => absurd h_ (by decide), fun h_ => absurd h_ (by decide), fun h_ => absurd h_ (by decide)⟩
   ·skip
    clear BK738 BK747 HB HI741 HO745
    refine steps_cons ?_ ?_
    ·rintro b a w' ⟨v753, adz_v753, m8_, ha, Q_HO745, Q_BK738, Q_BK747, Q_HI741, Q_HB, Q_HI741_e2, Q_HI741_e4, Q_HO754, Q_HA_HO754, Q_HI741_e7, Q_BK738_e10, Q_X8_⟩ hb_ hon hoff
     refine ⟨_, rfl, fun K hK => ?_⟩
     have e5 : a.tmps[5]? = some (.pointer (some ⟨gb747, 0, none⟩)) := by rw [ha]; exact (putSel_off rfl).trans rfl
     replace ha := Aside0.mk ha
     have HO745 := Aside0.mk Q_HO745
     have BK738 := ra (Q_BK738 (hoff 10 (by kernel_rfl)))
     have BK747 := Aside0.mk Q_BK747
     have HB := Aside0.mk Q_HB
     have hc0_ : w'.cell? ⟨gb747, 0, none⟩ = some (.string t742) := (blk_cell BK747.out 0).trans rfl
     have hc1_ : w'.cell? ⟨gb747, 1, none⟩ = some (.slice Ao16 t743.length co16) := (blk_cell BK747.out 1).trans rfl
     refine value_ (w1 := w') (v := .agg #[.string t742, .slice Ao16 t743.length co16]) (by rfl) rfl ?_ ?_
     ·go_simp
      (try simp only [i64_w])
      try rfl
     refine hK.out _ _ ⟨v753, adz_v753, m8_, (by rw [ha.out]; exact putSel_upk 0 hb_ rfl rfl rfl), Q_HO745, Q_BK738, Q_BK747, Q_HI741, Q_HB, Q_HI741_e2, Q_HI741_e4, Q_HO754, Q_HA_HO754, Q_HI741_e7, fun h0_ => absurd ((hoff 10 (by kernel_rfl)).symm.trans h0_) (by decide), Q_X8_⟩
    refine steps_cons ?_ ?_
    ·rintro b a w' ⟨v753, adz_v753, m8_, ha, Q_HO745, Q_BK738, Q_BK747, Q_HI741, Q_HB, Q_HI741_e2, Q_HI741_e4, Q_HO754, Q_HA_HO754, Q_HI741_e7, Q_BK738_e10, Q_X8_⟩ hb_ hon hoff
     refine ⟨_, rfl, fun K hK => ?_⟩
     have e11 : a.tmps[11]? = some (.pointer (some ⟨g741, 0, none⟩)) := by rw [ha]; exact (putSel_off rfl).trans rfl
     replace ha := Aside0.mk ha
     have HO745 := Aside0.mk Q_HO745
     have BK738 := ra (Q_BK738 (hoff 10 (by kernel_rfl)))
     have BK747 := Aside0.mk Q_BK747
     have HI741 := ra (Q_HI741 hb_)
     have HB := Aside0.mk Q_HB
     refine goes_ Try.func65 (by kernel_rfl) rfl #[.pointer (some ⟨g741, 0, none⟩), .int .i64 80] (by rfl) rfl rfl (by first | (simp only [List.map_toArray, List.map_cons, List.map_nil, Act.eval, Array.getD_eq_getD_getElem?, Option.getD_some, e11]; done) | (simp only [List.map_toArray, List.map_cons, List.map_nil, Act.eval, Array.getD_eq_getD_getElem?, Option.getD_some, e11]; rfl)) ?_
     with_reducible refine (spec_l1Rd_pick.calls k g741 t739 t746 80 t748 t749 w _ ?side1 ?side2 A4.out).mono ?_
     (case side1 => exact qi HI741)
     (case side2 => exact qb HI741 HB)
     rintro e w19 ⟨rfl, hi, hb, hk⟩
     refine ⟨_, rfl, ?_⟩
     have _ := kv hk (bk BK738) NB738_741
     have _ := ra (Kd.R_mono (Kd.R_keep (IsS90.apart (show IsS90 w _ g741 t739 t746 from qi HI741) (rq HO745) (by decide)) hk (fun _ h => h.2)) (fun _ h => h.1))
     have _ := kv hk (bk BK747) NB747_741
     have _ := ra (hb)
     have _ := ra (hi)
     clear BK738 HO745 BK747 HB HI741
     rename_i BK738 HO745 BK747 HB HI741
     (try clear hb)
     (try clear hb2)
     (try clear hk)
     (try clear hi)
     refine hK.out _ _ ⟨v753, adz_v753, m8_, (by rw [ha.out]; exact putSel_upk 1 hb_ rfl rfl rfl), (rq HO745), fun _ => (bk BK738), (bk BK747), fun h0_ => absurd ((up_self b 2).symm.trans h0_) (by decide), (qb HI741 HB), fun _ _ => (qi HI741), fun h0_ _ => absurd ((hoff 4 (by kernel_rfl)).symm.trans h0_) (by decide), fun h0_ => absurd ((hoff 5 (by kernel_rfl)).symm.trans h0_) (by decide), fun h0_ => absurd ((hoff 5 (by kernel_rfl)).symm.trans h0_) (by decide), fun h0_ => absurd ((hoff 7 (by kernel_rfl)).symm.trans h0_) (by decide), fun h0_ => absurd ((hoff 10 (by kernel_rfl)).symm.trans h0_) (by decide), fun h0_ => absurd ((hoff 8 (by kernel_rfl)).symm.trans h0_) (by decide)⟩
    refine steps_cons ?_ ?_
    ·rintro b a w' ⟨v753, adz_v753, m8_, ha, Q_HO745, Q_BK738, Q_BK747, Q_HI741, Q_HB, Q_HI741_e2, Q_HI741_e4, Q_HO754, Q_HA_HO754, Q_HI741_e7, Q_BK738_e10, Q_X8_⟩ hb_ hon hoff
     refine ⟨_, rfl, fun K hK => ?_⟩
     have e13 : a.tmps[13]? = some (.pointer (some ⟨g741, 0, none⟩)) := by rw [ha]; exact (putSel_off rfl).trans rfl
     replace ha := Aside0.mk ha
     have HO745 := Aside0.mk Q_HO745
     have BK738 := ra (Q_BK738 (hoff 10 (by kernel_rfl)))
     have BK747 := Aside0.mk Q_BK747
     have HB := Aside0.mk Q_HB
     have HI741 := ra (Q_HI741_e2 (hon 2 (by kernel_rfl)) hb_)
     refine goes_ Try.func65 (by kernel_rfl) rfl #[.pointer (some ⟨g741, 0, none⟩), .int .i64 80] (by rfl) rfl rfl (by first | (simp only [List.map_toArray, List.map_cons, List.map_nil, Act.eval, Array.getD_eq_getD_getElem?, Option.getD_some, e13]; done) | (simp only [List.map_toArray, List.map_cons, List.map_nil, Act.eval, Array.getD_eq_getD_getElem?, Option.getD_some, e13]; rfl)) ?_
     with_reducible refine (spec_l1Rd_pick.calls k g741 t739 t749 80 t750 t751 w _ ?side1 ?side2 A5.out).mono ?_
     (case side1 => exact qi HI741)
     (case side2 => exact qb HI741 HB)
     rintro e w21 ⟨rfl, hi, hb, hk⟩
     refine ⟨_, rfl, ?_⟩
     have _ := kv hk (bk BK738) NB738_741
     have _ := ra (Kd.R_mono (Kd.R_keep (IsS90.apart (show IsS90 w _ g741 t739 t749 from qi HI741) (rq HO745) (by decide)) hk (fun _ h => h.2)) (fun _ h => h.1))
     have _ := kv hk (bk BK747) NB747_741
     have _ := ra (hb)
     have _ := ra (hi)
     clear BK738 HO745 BK747 HB HI741
     rename_i BK738 HO745 BK747 HB HI741
     (try clear hb)
     (try clear hb2)
     (try clear hk)
     (try clear hi)
     refine hK.out _ _ ⟨v753, adz_v753, m8_, (by rw [ha.out]; exact putSel_upk 2 hb_ rfl rfl rfl), (rq HO745), fun _ => (bk BK738), (bk BK747), fun h0_ => absurd ((hon 2 (by kernel_rfl)).symm.trans h0_) (by decide), (qb HI741 HB), fun _ h1_ => absurd ((up_self b 4).symm.trans h1_) (by decide), fun _ _ => (qi HI741), fun h0_ => absurd ((hoff 5 (by kernel_rfl)).symm.trans h0_) (by decide), fun h0_ => absurd ((hoff 5 (by kernel_rfl)).symm.trans h0_) (by decide), fun h0_ => absurd ((hoff 7 (by kernel_rfl)).symm.trans h0_) (by decide), fun h0_ => absurd ((hoff 10 (by kernel_rfl)).symm.trans h0_) (by decide), fun h0_ => absurd ((hoff 8 (by kernel_rfl)).symm.trans h0_) (by decide)⟩
    refine steps_cons ?_ ?_
    ·rintro b a w' ⟨v753, adz_v753, m8_, ha, Q_HO745, Q_BK738, Q_BK747, Q_HI741, Q_HB, Q_HI741_e2, Q_HI741_e4, Q_HO754, Q_HA_HO754, Q_HI741_e7, Q_BK738_e10, Q_X8_⟩ hb_ hon hoff
     refine ⟨_, rfl, fun K hK => ?_⟩
     have e12 : a.tmps[12]? = some (.int .i64 t748) := by rw [ha]; exact putSel_on (e := (2, 12, .int .i64 t748)) 1 rfl rfl (hon 2 (by kernel_rfl)) rfl
     have e14 : a.tmps[14]? = some (.int .i64 t750) := by rw [ha]; exact putSel_on (e := (4, 14, .int .i64 t750)) 2 rfl rfl (hon 4 (by kernel_rfl)) rfl
     replace ha := Aside0.mk ha
     have HO745 := Aside0.mk Q_HO745
     have BK747 := Aside0.mk Q_BK747
     have HB := Aside0.mk Q_HB
     refine Kd.R_lit_step (Kd.int .i64) _ 3 ?hg (N := 15) ?hd (xs := ([t748, t750, (-1), 0, 10000, 9223372036854775807] : List Int)) (inner := [.int .i64 t748, .int .i64 t750, .int .i64 (-1), .int .i64 0, .int .i64 10000, .int .i64 9223372036854775807]) (ok := fun _ => True) (okp := fun _ => True) ?hr ?hp (fun _ hk => hk) trivial (Below.refl _ _) (Nat.le_refl _) (by simp) ?_; (case hd => rfl); (case hg => rfl); (case hr => first | (go_simp; done) | (go_simp; rfl)); (case hp => exact (Reps.one (show Kd.M (Kd.int .i64) _ _ _ t748 [.int .i64 t748] from rfl) (Reps.one (show Kd.M (Kd.int .i64) _ _ _ t750 [.int .i64 t750] from rfl) (Reps.one (show Kd.M (Kd.int .i64) _ _ _ (-1) [.int .i64 (-1)] from rfl) (Reps.one (show Kd.M (Kd.int .i64) _ _ _ 0 [.int .i64 0] from rfl) (Reps.one (show Kd.M (Kd.int .i64) _ _ _ 10000 [.int .i64 10000] from rfl) (Reps.one (show Kd.M (Kd.int .i64) _ _ _ 9223372036854775807 [.int .i64 9223372036854775807] from rfl) (Reps.none _ _))))))))
     intro v753 w22 ho23 hb hg_ hnew_
     clear hg_ hnew_
     (first | rw [← Ny752.out] at ho23 | (simp only [Int.reduceToNat] at ho23; rw [← Ny752.out] at ho23))
     have _ := ra (Kd.R_below (rq HO745) hb)
     have _ := ra (Kd.R_lower ho23 (below_size bq))
     have _ := bb (bk BK747) hb
     have _ := bs hb
     have z_BK738 := fun (h0_ : b 10 = false) => (show w22.heap[gb738]? = some (.cells #[.string (⟨#[]⟩ : ByteArray), .slice none 0 0] 39 (0, 0)) from by first | exact (blk_below (g := gb738) (o := .cells #[.string (⟨#[]⟩ : ByteArray), .slice none 0 0] 39 (0, 0)) (by (with_reducible repeat (first | refine blk_drewN ?_ _ | refine blk_drew ?_ | refine blk_alloc ?_ _)); exact (Q_BK738 h0_)) hb))
     have z_HI741_e4 := fun (h0_ : b 4 = true) (h1_ : b 7 = false) => (show IsS90 w w22 g741 t739 t751 from by first | exact (IsS90.below (by repeat (first | (with_reducible first | exact (Q_HI741_e4 h0_ h1_) | apply IsS90.alloc | apply IsS90.drewN | apply IsS90.drew | apply IsS90.set_1 | refine IsS90.far ?_ NB741_738.out _ | refine IsS90.far ?_ NB741_747.out _) | exact (Q_HI741_e4 h0_ h1_))) hb))
     have z_HI741_e7 := fun (h0_ : b 7 = true) => (show IsS90 w w22 g741 t739 t756 from by first | exact (IsS90.below (by repeat (first | (with_reducible first | exact (Q_HI741_e7 h0_) | apply IsS90.alloc | apply IsS90.drewN | apply IsS90.drew | apply IsS90.set_1 | refine IsS90.far ?_ NB741_738.out _ | refine IsS90.far ?_ NB741_747.out _) | exact (Q_HI741_e7 h0_))) hb))
     have z_BK738_e10 := fun (h0_ : b 10 = true) => (show w22.heap[gb738]? = some (.cells #[.string t742, .slice Ao16 t743.length co16] 39 (0, 0)) from by first | exact (blk_below (g := gb738) (o := .cells #[.string t742, .slice Ao16 t743.length co16] 39 (0, 0)) (by (with_reducible repeat (first | refine blk_drewN ?_ _ | refine blk_drew ?_ | refine blk_alloc ?_ _)); exact (Q_BK738_e10 h0_)) hb))
     clear HO745 BK747 HB
     rename_i HO745 HO754 BK747 HB
     clear hb ho23
     obtain ⟨Ao24, co24, eo24⟩ := Kd.R_slice HO754.out
     subst eo24
     obtain ⟨ado24, fo24, _⟩ := Kd.at_int (Kd.R_reads' HO754.out).2.2 0 (by decide) (by rw [Ny752.out]; simp)
     cases fo24
     refine hK.out _ _ ⟨.slice (some ado24) y752.length co24, ado24, m8_, (by rw [ha.out]; exact putSel_upk 3 hb_ rfl rfl rfl), (rq HO745), z_BK738, (bk BK747), fun h0_ => absurd ((hon 2 (by kernel_rfl)).symm.trans h0_) (by decide), bq, fun _ h1_ => absurd ((hon 4 (by kernel_rfl)).symm.trans h1_) (by decide), z_HI741_e4, fun _ => (rq HO754), fun _ => ⟨_, rfl⟩, z_HI741_e7, z_BK738_e10, fun h0_ => absurd ((hoff 8 (by kernel_rfl)).symm.trans h0_) (by decide)⟩
    refine steps_cons ?_ ?_
    ·rintro b a w' ⟨v753, adz_v753, m8_, ha, Q_HO745, Q_BK738, Q_BK747, Q_HI741, Q_HB, Q_HI741_e2, Q_HI741_e4, Q_HO754, Q_HA_HO754, Q_HI741_e7, Q_BK738_e10, Q_X8_⟩ hb_ hon hoff
     refine ⟨_, rfl, fun K hK => ?_⟩
     have e16 : a.tmps[16]? = some (.pointer (some ⟨g741, 0, none⟩)) := by rw [ha]; exact (putSel_off rfl).trans rfl
     replace ha := Aside0.mk ha
     have HO745 := Aside0.mk Q_HO745
     have BK738 := ra (Q_BK738 (hoff 10 (by kernel_rfl)))
     have BK747 := Aside0.mk Q_BK747
     have HB := Aside0.mk Q_HB
     have HI741 := ra (Q_HI741_e4 (hon 4 (by kernel_rfl)) hb_)
     refine goes_ Try.func65 (by kernel_rfl) rfl #[.pointer (some ⟨g741, 0, none⟩), .int .i64 6] (by rfl) rfl rfl (by first | (simp only [List.map_toArray, List.map_cons, List.map_nil, Act.eval, Array.getD_eq_getD_getElem?, Option.getD_some, e16]; done) | (simp only [List.map_toArray, List.map_cons, List.map_nil, Act.eval, Array.getD_eq_getD_getElem?, Option.getD_some, e16]; rfl)) ?_
     with_reducible refine (spec_l1Rd_pick.calls k g741 t739 t751 6 t755 t756 w _ ?side1 ?side2 A6.out).mono ?_
     (case side1 => exact qi HI741)
     (case side2 => exact qb HI741 HB)
     rintro e w22 ⟨rfl, hi, hb, hk⟩
     refine ⟨_, rfl, ?_⟩
     have _ := kv hk (bk BK738) NB738_741
     have _ := ra (Kd.R_mono (Kd.R_keep (IsS90.apart (show IsS90 w _ g741 t739 t751 from qi HI741) (rq HO745) (by decide)) hk (fun _ h => h.2)) (fun _ h => h.1))
     have _ := kv hk (bk BK747) NB747_741
     have _ := ra (hb)
     have _ := ra (hi)
     have z_HO754 := fun (h0_ : b 5 = true) => (show Kd.R (Kd.int .i64) 3 w22 w.heap.size (fun _ => True) v753 y752 from by first | exact (Kd.R_mono (Kd.R_keep (IsS90.apart (show IsS90 w _ g741 t739 t751 from qi HI741) (rr (Q_HO754 h0_)) (by decide)) hk (fun _ h => h.2)) (fun _ h => h.1)) | exact Kd.R_mono (Kd.R_mono (Kd.R_keep (IsS90.apart (show IsS90 w _ g741 t739 t751 from qi HI741) (rr (Q_HO754 h0_)) (by decide)) hk (fun _ h => h.2)) (fun _ h => h.1)) (fun _ h_ => by first | trivial | exact h_ | exact h_.1))
     clear BK738 HO745 BK747 HB HI741
     rename_i BK738 HO745 BK747 HB HI741
     (try clear hb)
     (try clear hb2)
     (try clear hk)
     (try clear hi)
     refine hK.out _ _ ⟨v753, adz_v753, m8_, (by rw [ha.out]; exact putSel_upk 4 hb_ rfl rfl rfl), (rq HO745), fun _ => (bk BK738), (bk BK747), fun h0_ => absurd ((hon 2 (by kernel_rfl)).symm.trans h0_) (by decide), (qb HI741 HB), fun _ h1_ => absurd ((hon 4 (by kernel_rfl)).symm.trans h1_) (by decide), fun _ h1_ => absurd ((up_self b 7).symm.trans h1_) (by decide), z_HO754, Q_HA_HO754, fun _ => (qi HI741), fun h0_ => absurd ((hoff 10 (by kernel_rfl)).symm.trans h0_) (by decide), fun h0_ => absurd ((hoff 8 (by kernel_rfl)).symm.trans h0_) (by decide)⟩
    refine steps_cons ?_ ?_
    ·rintro b a w' ⟨v753, adz_v753, m8_, ha, Q_HO745, Q_BK738, Q_BK747, Q_HI741, Q_HB, Q_HI741_e2, Q_HI741_e4, Q_HO754, Q_HA_HO754, Q_HI741_e7, Q_BK738_e10, Q_X8_⟩ hb_ hon hoff
     refine ⟨_, rfl, fun K hK => ?_⟩
     have e15 : a.tmps[15]? = some (v753) := by rw [ha]; exact putSel_on (e := (5, 15, v753)) 3 rfl rfl (hon 5 (by kernel_rfl)) rfl
     have e17 : a.tmps[17]? = some (.int .i64 t755) := by rw [ha]; exact putSel_on (e := (7, 17, .int .i64 t755)) 4 rfl rfl (hon 7 (by kernel_rfl)) rfl
     replace ha := Aside0.mk ha
     have HO745 := Aside0.mk Q_HO745
     have BK747 := Aside0.mk Q_BK747
     have HB := Aside0.mk Q_HB
     have HO754 := ra (Q_HO754 (hon 5 (by kernel_rfl)))
     have HA_HO754 := ra (Q_HA_HO754 (hon 5 (by kernel_rfl)))
     have HI741 := ra (Q_HI741_e7 (hon 7 (by kernel_rfl)))
     obtain ⟨c_, hv_⟩ := HA_HO754.out
     rw [hv_] at e15
     refine value_ (w1 := w') (v := .pointer (some (adz_v753.add (t755).toNat))) (by rfl) rfl ?_ ?_
     ·go_simp
      (try simp only [i64_w])
      try rfl
     refine hK.out _ _ ⟨v753, adz_v753, (.pointer (some (adz_v753.add (t755).toNat))), (by rw [ha.out]; exact putSel_upk 5 hb_ rfl rfl rfl), Q_HO745, Q_BK738, Q_BK747, fun h0_ => absurd ((hon 2 (by kernel_rfl)).symm.trans h0_) (by decide), Q_HB, fun _ h1_ => absurd ((hon 4 (by kernel_rfl)).symm.trans h1_) (by decide), fun _ h1_ => absurd ((hon 7 (by kernel_rfl)).symm.trans h1_) (by decide), Q_HO754, Q_HA_HO754, Q_HI741_e7, Q_BK738_e10, fun _ => rfl⟩
    refine steps_cons ?_ ?_
    ·rintro b a w' ⟨v753, adz_v753, m8_, ha, Q_HO745, Q_BK738, Q_BK747, Q_HI741, Q_HB, Q_HI741_e2, Q_HI741_e4, Q_HO754, Q_HA_HO754, Q_HI741_e7, Q_BK738_e10, Q_X8_⟩ hb_ hon hoff
     refine ⟨_, rfl, fun K hK => ?_⟩
     have e18 : a.tmps[18]? = some (m8_) := by rw [ha]; exact putSel_on (e := (8, 18, m8_)) 5 rfl rfl (hon 8 (by kernel_rfl)) rfl
     rw [Q_X8_ (hon 8 (by kernel_rfl))] at e18
     replace ha := Aside0.mk ha
     have HO745 := Aside0.mk Q_HO745
     have BK747 := Aside0.mk Q_BK747
     have HB := Aside0.mk Q_HB
     have HO754 := ra (Q_HO754 (hon 5 (by kernel_rfl)))
     have HA_HO754 := ra (Q_HA_HO754 (hon 5 (by kernel_rfl)))
     have HI741 := ra (Q_HI741_e7 (hon 7 (by kernel_rfl)))
     obtain ⟨c_, hv_⟩ := HA_HO754.out
     have hF_ := HO754.out
     rw [hv_] at hF_
     obtain ⟨ad_, ea_, hx_⟩ := Kd.at_int (Kd.R_reads' hF_).2.2 t755 (of_eq_true pi757) (of_eq_true qi757)
     cases ea_
     refine value_ (w1 := w') (v := .int .i64 (rd y752 t755)) (by rfl) rfl ?_ ?_
     ·go_simp
      (try simp only [i64_w])
      try rfl
     refine hK.out _ _ ⟨v753, adz_v753, m8_, (by rw [ha.out]; exact putSel_upk 6 hb_ rfl rfl rfl), Q_HO745, Q_BK738, Q_BK747, fun h0_ => absurd ((hon 2 (by kernel_rfl)).symm.trans h0_) (by decide), Q_HB, fun _ h1_ => absurd ((hon 4 (by kernel_rfl)).symm.trans h1_) (by decide), fun _ h1_ => absurd ((hon 7 (by kernel_rfl)).symm.trans h1_) (by decide), Q_HO754, Q_HA_HO754, Q_HI741_e7, Q_BK738_e10, Q_X8_⟩
    refine steps_cons ?_ ?_
    ·rintro b a w' ⟨v753, adz_v753, m8_, ha, Q_HO745, Q_BK738, Q_BK747, Q_HI741, Q_HB, Q_HI741_e2, Q_HI741_e4, Q_HO754, Q_HA_HO754, Q_HI741_e7, Q_BK738_e10, Q_X8_⟩ hb_ hon hoff
     refine ⟨_, rfl, fun K hK => ?_⟩
     have e2 : a.tmps[2]? = some (.pointer (some ⟨gb738, 0, none⟩)) := by rw [ha]; exact (putSel_off rfl).trans rfl
     have e10 : a.tmps[10]? = some (.agg #[.string t742, .slice Ao16 t743.length co16]) := by rw [ha]; exact putSel_on (e := (0, 10, .agg #[.string t742, .slice Ao16 t743.length co16])) 0 rfl rfl (hon 0 (by kernel_rfl)) rfl
     replace ha := Aside0.mk ha
     have HO745 := Aside0.mk Q_HO745
     have BK738 := ra (Q_BK738 hb_)
     have BK747 := Aside0.mk Q_BK747
     have HB := Aside0.mk Q_HB
     have HI741 := ra (Q_HI741_e7 (hon 7 (by kernel_rfl)))
     have hs23 : w'.cell? ⟨gb738, 0, none⟩ = some (.string (⟨#[]⟩ : ByteArray)) := (blk_cell BK738.out 0).trans rfl
     have hfs23 := blk_frozen BK738.out 0
     have hns23_1 := NB747_738.out
     have hms23_1 := NB738_747.out
     have hs24 : w'.cell? ⟨gb738, 1, none⟩ = some (.slice none 0 0) := (blk_cell BK738.out 1).trans rfl
     have hfs24 := blk_frozen BK738.out 1
     have hns24_1 := NB747_738.out
     have hms24_1 := NB738_747.out
     refine skip_ (w1 := ?_) (by rfl) rfl ?_ ?_
     rotate_left
     ·go_simp
      rfl
     refine hK.out _ _ ⟨v753, adz_v753, m8_, (by rw [ha.out]; exact putSel_none (v := undef) rfl), (by (with_reducible repeat (first | apply Kd.R_alloc | apply Kd.R_drewN | apply Kd.R_drew)); exact Kd.R_mono (rf (Kd.R_types HO745.out BK738.out (by decide))) (fun _ hk => trivial)), fun h0_ => absurd ((up_self b 10).symm.trans h0_) (by decide), (bk BK747), fun h0_ => absurd ((hon 2 (by kernel_rfl)).symm.trans h0_) (by decide), (qb HI741 HB), fun _ h1_ => absurd ((hon 4 (by kernel_rfl)).symm.trans h1_) (by decide), fun _ h1_ => absurd ((hon 7 (by kernel_rfl)).symm.trans h1_) (by decide), fun h0_ => (by (with_reducible repeat (first | apply Kd.R_alloc | apply Kd.R_drewN | apply Kd.R_drew)); exact Kd.R_mono (rf (Kd.R_types (Q_HO754 h0_) BK738.out (by decide))) (fun _ hk => trivial)), Q_HA_HO754, fun _ => (qi HI741), fun _ => (bp BK738), Q_X8_⟩
    refine steps_cons ?_ ?_
    ·rintro b a w' ⟨v753, adz_v753, m8_, ha, Q_HO745, Q_BK738, Q_BK747, Q_HI741, Q_HB, Q_HI741_e2, Q_HI741_e4, Q_HO754, Q_HA_HO754, Q_HI741_e7, Q_BK738_e10, Q_X8_⟩ hb_ hon hoff
     refine ⟨_, rfl, fun K hK => ?_⟩
     have e19 : a.tmps[19]? = some (.int .i64 (rd y752 t755)) := by rw [ha]; exact putSel_on (e := (9, 19, .int .i64 (rd y752 t755))) 6 rfl rfl (hon 9 (by kernel_rfl)) rfl
     replace ha := Aside0.mk ha
     have HO745 := Aside0.mk Q_HO745
     have BK747 := Aside0.mk Q_BK747
     have HB := Aside0.mk Q_HB
     have HO754 := ra (Q_HO754 (hon 5 (by kernel_rfl)))
     have HA_HO754 := ra (Q_HA_HO754 (hon 5 (by kernel_rfl)))
     have HI741 := ra (Q_HI741_e7 (hon 7 (by kernel_rfl)))
     have BK738 := ra (Q_BK738_e10 (hon 10 (by kernel_rfl)))
     refine value_ (w1 := w') (v := .int .i64 (rd y752 t755)) (by rfl) rfl ?_ ?_
     ·go_simp
      (try simp only [i64_w])
      try rfl
     refine hK.out _ _ ⟨v753, adz_v753, m8_, (by rw [ha.out]; exact putSel_upk 7 hb_ rfl rfl rfl), Q_HO745, fun h0_ => absurd ((hon 10 (by kernel_rfl)).symm.trans h0_) (by decide), Q_BK747, fun h0_ => absurd ((hon 2 (by kernel_rfl)).symm.trans h0_) (by decide), Q_HB, fun _ h1_ => absurd ((hon 4 (by kernel_rfl)).symm.trans h1_) (by decide), fun _ h1_ => absurd ((hon 7 (by kernel_rfl)).symm.trans h1_) (by decide), Q_HO754, Q_HA_HO754, Q_HI741_e7, Q_BK738_e10, Q_X8_⟩
    exact steps_nil
   rintro b a w27 hall ⟨v753, adz_v753, m8_, ha, Q_HO745, Q_BK738, Q_BK747, Q_HI741, Q_HB, Q_HI741_e2, Q_HI741_e4, Q_HO754, Q_HA_HO754, Q_HI741_e7, Q_BK738_e10, Q_X8_⟩
   clear BK738 BK747 HB HI741 HO745
   have hb0_ := hall 0 (by kernel_rfl)
   have hb2_ := hall 2 (by kernel_rfl)
   have hb4_ := hall 4 (by kernel_rfl)
   have hb5_ := hall 5 (by kernel_rfl)
   have hb7_ := hall 7 (by kernel_rfl)
   have hb8_ := hall 8 (by kernel_rfl)
   have hb9_ := hall 9 (by kernel_rfl)
   have hb10_ := hall 10 (by kernel_rfl)
   have hb11_ := hall 11 (by kernel_rfl)
   subst ha
   obtain rfl := Q_X8_ hb8_
   simp only [putSel, hb0_, hb2_, hb4_, hb5_, hb7_, hb8_, hb9_, hb10_, hb11_, if_true, Act.put, List.setIfInBounds_toArray, List.set_cons_zero, List.set_cons_succ]
   have HO745 := Aside0.mk Q_HO745
   clear Q_HO745 Q_BK738
   have BK747 := Aside0.mk Q_BK747
   clear Q_BK747 Q_HI741
   have HB := Aside0.mk Q_HB
   clear Q_HB Q_HI741_e2 Q_HI741_e4
   have HO754 := ra (Q_HO754 hb5_)
   clear Q_HO754
   have HA_HO754 := ra (Q_HA_HO754 hb5_)
   clear Q_HA_HO754
   have HI741 := ra (Q_HI741_e7 hb7_)
   clear Q_HI741_e7
   have BK738 := ra (Q_BK738_e10 hb10_)
   clear Q_BK738_e10
   clear hall hb0_ hb2_ hb4_ hb5_ hb7_ hb8_ hb9_ hb10_ hb11_
   obtain ⟨co28, eo28⟩ := HA_HO754.out
   clear HA_HO754
   subst eo28
   try go_wp2
   refine bodyPost_ret (results_ct rfl _ _ gb738 39 #[.string t742, .slice Ao16 t743.length co16] (0, 0) _ rfl (bk BK738) Try.underlying39 rfl (by kernel_rfl)) rfl ?_
   exact ⟨_, re, rq HO745, by exact qb HI741 HB⟩
  ·rw [if_neg c8] at H
   exact absurd H (by simp)
 ·rw [if_neg c7] at H
  exact absurd H (by simp)
end Go.Proofs.Ytfoapgcnjnogiaa.PA
