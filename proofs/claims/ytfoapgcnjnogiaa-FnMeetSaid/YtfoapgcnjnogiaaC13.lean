/- Contracts of the functions laws_FnMeet. (Began as a print of the kit's tool.) -/
import Derived.Test.YtfoapgcnjnogiaaPAd
import Derived.Test.YtfoapgcnjnogiaaCx
import Derived.Test.YtfoapgcnjnogiaaCy
import Derived.Test.YtfoapgcnjnogiaaC44
import Derived.Test.YtfoapgcnjnogiaaGMeet
import Derived.Test.YtfoapgcnjnogiaaGMeet
import Derived.Test.YtfoapgcnjnogiaaGNear
import Derived.Test.YtfoapgcnjnogiaaGNear
import Derived.Test.YtfoapgcnjnogiaaGBase
import Derived.Test.YtfoapgcnjnogiaaGNear
namespace Go.Proofs.Ytfoapgcnjnogiaa.PA
open Go.RowKit Go.Proofs.YtfoapgcnjnogiaaW.PrintWords Go.Proofs.YtfoapgcnjnogiaaW.PrintLast Go.Proofs.YtfoapgcnjnogiaaW.PrintMore Go.Proofs.Ytfoapgcnjnogiaa.Z
attribute [local go_sem] max2_int min2_int max_two min_two max_three min_three max_four min_four
set_option linter.unusedVariables false
set_option linter.unusedSimpArgs false
attribute [local go_sem high] eqA52
def laws_FnMeet.T11 : Bool × List (List Nat × List Nat) := (true, [([], []), ([0], [0]), ([], []), ([2], [2]), ([1, 3], [1, 3]), ([4], [4]), ([5], [5]), ([6, 5], [5, 6]), ([5], [5]), ([8, 5], [5, 8]), ([7, 9, 5], [5, 7, 9]), ([5, 10], [5, 10]), ([11, 5], [11]), ([12], [12]), ([13, 12], [12, 13]), ([12], [12]), ([15, 12], [12, 15]), ([14, 16, 12], [12, 14, 16]), ([12, 17], [12, 17]), ([18, 12], [18]), ([19], [19]), ([20, 19], [19, 20]), ([19], [19]), ([22, 19], [19, 22]), ([21, 23, 19], [19, 21, 23]), ([24, 19], [19, 24]), ([19], [19]), ([26, 19], [19, 26]), ([19], [19]), ([28, 19], [19, 28]), ([27, 29, 19], [19, 27, 29]), ([30, 19], [19, 30]), ([19], [19]), ([32, 19], [19, 32]), ([25, 31, 33, 19, 19], [19, 25, 31, 33]), ([34, 19], [19, 34]), ([19, 35], [19, 35])])
def laws_FnMeet.B11 : List Nat := [0, 1, 0, 4, 15, 31, 63, 127, 63, 319, 1023, 2047, 4095, 8191, 16383, 8191, 40959, 131071, 262143, 524287, 1048575, 2097151, 1048575, 5242879, 16777215, 33554431, 1048575, 68157439, 1048575, 269484031, 1007681535, 2081423359, 1048575, 4296015871, 17179869183, 34359738367, 68719476735]
theorem laws_FnMeet.tab11 : rtab .any (opsOf Try.f13 11) = laws_FnMeet.T11 := by kernel_rfl
theorem laws_FnMeet.bits11 : waitsOk laws_FnMeet.T11.2 laws_FnMeet.B11 = true := by kernel_rfl
set_option maxHeartbeats 8000000 in
set_option maxRecDepth 100000 in
theorem laws_FnMeet.calls (k : Nat) (A0 : Option Addr) (c0 : Nat) (l0 : List Int) (w : World) (hr0 : Kd.C (Kd.int .u8) w A0 l0.length l0) (hc0 : l0.length ≤ c0) (h : laws_FnMeet.f k l0 = some true) :
  Calls Try.prog 13 #[.slice A0 l0.length c0] w fun e w' => e = .returned (.bool true) ∧ Below w.heap.size w w' := by
 have hu39 := Try.underlying39
 have hu52 := Try.underlying52
 have hu26 := Try.underlying26
 have HR0 := Aside0.mk hr0
 have HC0 := Aside0.mk hc0
 clear hr0 hc0
 have HB := ra (Below.refl w.heap.size w)
 have H : (if (l0.length : Int) > 1048576 then (some true) else ((spec_DrawProbeMeet.f k l0).bind fun bt851 => ((impl_ProbeMeet.f k bt851.1 bt851.2.1 bt851.2.2.1 bt851.2.2.2).bind fun bt861 => ((spec_ProbeMeet.f k bt851.1 bt851.2.1 bt851.2.2.1 bt851.2.2.2).bind fun bt868 => ((impl_ProbeMeet.f k bt851.2.2.1 bt851.2.2.2 bt851.1 bt851.2.1).bind fun bt875 => (if (bt861.2.2.2.2.2 != bt868.2.2.2.2.2) = true then (laws_FnMeet.j0 k bt861.2.2.2.2.2 true bt851.1 bt851.2.1 bt851.2.2.1 bt851.2.2.2 bt861.1 bt861.2.1 bt861.2.2.1 bt861.2.2.2.1 bt861.2.2.2.2.1 bt875.1 bt875.2.1 bt875.2.2.1 bt875.2.2.2.1 bt875.2.2.2.2.1) else (if (!(bt861.1.toList == bt868.1.toList) || (!(bt861.2.1.toList == bt868.2.1.toList) || (!(bt861.2.2.1 == bt868.2.2.1) || (!(bt861.2.2.2.1 == bt868.2.2.2.1) || (!(bt861.2.2.2.2.1 == bt868.2.2.2.2.1)))))) = true then (laws_FnMeet.j0 k bt861.2.2.2.2.2 true bt851.1 bt851.2.1 bt851.2.2.1 bt851.2.2.2 bt861.1 bt861.2.1 bt861.2.2.1 bt861.2.2.2.1 bt861.2.2.2.2.1 bt875.1 bt875.2.1 bt875.2.2.1 bt875.2.2.2.1 bt875.2.2.2.2.1) else (laws_FnMeet.j0 k bt861.2.2.2.2.2 (bt861.2.2.2.2.2 != bt875.2.2.2.2.2) bt851.1 bt851.2.1 bt851.2.2.1 bt851.2.2.2 bt861.1 bt861.2.1 bt861.2.2.1 bt861.2.2.2.1 bt861.2.2.2.2.1 bt875.1 bt875.2.1 bt875.2.2.1 bt875.2.2.2.1 bt875.2.2.2.2.1)))))))) = some true := h
 clear h
 by_cases c2 : (l0.length : Int) > 1048576
 ·rw [if_pos c2] at H
  have c2b0 : decide (1048576 < (l0.length : Int)) = true := decide_eq_true c2
  have c2b1 : decide (1048576 < l0.length) = true := decide_eq_true (by omega)
  clear c2 H
  go_enter Try.func13, Try.ntmps13
  go_wp2
  go_ret
  exact ⟨re, bq⟩
 ·rw [if_neg c2] at H
  have c2b0 : decide (1048576 < (l0.length : Int)) = false := decide_eq_false c2
  have c2b1 : decide (1048576 < l0.length) = false := decide_eq_false (by omega)
  clear c2
  obtain ⟨⟨t851, t852, t855, t856⟩, A3, H⟩ := bo H
  try dsimp only at H
  obtain ⟨⟨t861, t862, t863, t864, t865, t866⟩, A4, H⟩ := bo H
  try dsimp only at H
  obtain ⟨⟨t868, t869, t870, t871, t872, t873⟩, A5, H⟩ := bo H
  try dsimp only at H
  obtain ⟨⟨t875, t876, t877, t878, t879, t880⟩, A6, H⟩ := bo H
  try dsimp only at H
  have HC7 := Aside0.mk H
  clear H
  go_enter Try.func13, Try.ntmps13
  go_upto_region 7 with (first | ((with_reducible refine gate_callee (f := 44) rfl ?_); refine gl (some 17) Try.func44 #[.slice A0 l0.length c0] ?_; (with_reducible refine (spec_DrawProbeMeet.calls k _ _ l0 t851 t852 t855 t856 _ ?side1 ?side2 A3.out).mono ?_); (case side1 => repeat (first | exact HR0.out | (with_reducible refine Kd.C_alloc ?_ _) | (with_reducible refine Kd.C_drewN ?_ _) | (with_reducible refine Kd.C_drew ?_))); (case side2 => exact HC0.out); rintro e w8 ⟨v853, v857, rfl, ho0, ho1, hb⟩; refine ⟨_, rfl, ?_⟩; have n0 := ra (Kd.R_lower ho0 (below_size bq)); have n1 := ra (Kd.R_lower ho1 (below_size bq)); have n2 := bs hb; clear HB; have HO854 := n0; have HO858 := n1; have HB := n2; clear n0 n1 n2; (try clear hb); (try clear hb2); (try clear hk); (try clear hi); (try clear ho0); (try clear ho1)) | ((with_reducible refine gate_dst (N := 3) rfl ?_); refine be 3 #[.string (⟨#[]⟩ : ByteArray), .slice none 0 0] 39 ?_; intro gb859 hg w9 hbox hb; have n0 := ra (Kd.R_below (rq HO854) hb); have n1 := ra (Kd.R_below (rq HO858) hb); have n2 := bs hb; have n3 := ra (hbox); have n4 := bz (w0 := w) hg; have n5 := bz (w0 := w) hg; clear HO854 HO858 HB; have HO854 := n0; have HO858 := n1; have HB := n2; have BK859 := n3; have GW859 := n4; have GE859 := n5; clear n0 n1 n2 n3 n4 n5; clear hb hbox hg) | ((with_reducible refine gate_dst (N := 4) rfl ?_); refine be 4 #[.string (⟨#[]⟩ : ByteArray), .slice none 0 0] 39 ?_; intro gb860 hg w10 hbox hb; have n0 := ra (Kd.R_below (rq HO854) hb); have n1 := ra (Kd.R_below (rq HO858) hb); have n2 := bb (bk BK859) hb; have n3 := bs hb; have n4 := ra (hbox); have n5 := bz (w0 := w) hg; have n6 := bz (w0 := w) hg; have n7 := bn hg (bk BK859); have n8_ := bm hg (bk BK859); clear HO854 HO858 BK859 HB; have HO854 := n0; have HO858 := n1; have BK859 := n2; have HB := n3; have BK860 := n4; have GW860 := n5; have GE860 := n6; have NB859_860 := n7; have NB860_859 := n8_; clear n0 n1 n2 n3 n4 n5 n6 n7 n8_; clear hb hbox hg; have hnb11 := NB859_860.out; have hnc11 := NB860_859.out; obtain ⟨hcz12_0, hcz12_1, hfz12_0, hfz12_1⟩ := zc2 BK859; obtain ⟨Ao13, co13, eo13⟩ := Kd.R_slice HO854.out; subst eo13; obtain ⟨hcz14_0, hcz14_1, hfz14_0, hfz14_1⟩ := zc2 BK860; obtain ⟨Ao15, co15, eo15⟩ := Kd.R_slice HO858.out; subst eo15) | ((with_reducible refine gate_callee (f := 33) rfl ?_); refine gl (some 23) Try.func33 #[.agg #[.string t851, .slice Ao13 t852.length co13], .agg #[.string t855, .slice Ao15 t856.length co15]] ?_; (with_reducible refine (impl_ProbeMeet.calls k t851 _ _ t852 t855 _ _ t856 t861 t862 t863 t864 t865 t866 _ ?side1 ?side2 ?side3 ?side4 A4.out).mono ?_); (case side1 => refine (Kd.R_reads' (e := 26) (base := w.heap.size) (ok := fun k_ => some k_ ≠ (.slice Ao15 t856.length co15 : Value).ownBlock) (n := t852.length) (c := co13) ?_).2.2; exact (Kd.R_mono (Kd.R_mono (rf (Kd.R_types (Kd.R_types HO854.out BK859.out (by decide)) BK860.out (by decide))) (fun _ h_ => h_.1)) (fun _ h_ => h_.1))); (case side2 => exact (Kd.R_reads' HO854.out).2.1); (case side3 => refine (Kd.R_reads' (e := 26) (base := w.heap.size) (ok := fun k_ => some k_ ≠ (.slice Ao13 t852.length co13 : Value).ownBlock) (n := t856.length) (c := co15) ?_).2.2; exact (Kd.R_mono (Kd.R_mono (rf (Kd.R_types (Kd.R_types HO858.out BK859.out (by decide)) BK860.out (by decide))) (fun _ h_ => h_.1)) (fun _ h_ => h_.1))); (case side4 => exact (Kd.R_reads' HO858.out).2.1); rintro e w16 ⟨rfl, hb⟩; refine ⟨_, rfl, ?_⟩; have n0 := ra (Kd.R_below (Kd.R_mono (Kd.R_mono (rf (Kd.R_types (Kd.R_types HO854.out BK859.out (by decide)) BK860.out (by decide))) (fun _ h_ => h_.1)) (fun _ h_ => h_.1)) hb); have n1 := ra (Kd.R_below (Kd.R_mono (Kd.R_mono (rf (Kd.R_types (Kd.R_types HO858.out BK859.out (by decide)) BK860.out (by decide))) (fun _ h_ => h_.1)) (fun _ h_ => h_.1)) hb); have n2 := bb (o := .cells #[.string t851, .slice Ao13 t852.length co13] 39 (0, 0)) (bp BK859) hb; have n3 := bb (o := .cells #[.string t855, .slice Ao15 t856.length co15] 39 (0, 0)) (bp BK860) hb; have n4 := bs hb; clear HO854 HO858 BK859 BK860 HB; have HO854 := n0; have HO858 := n1; have BK859 := n2; have BK860 := n3; have HB := n4; clear n0 n1 n2 n3 n4; (try clear hb); (try clear hb2); (try clear hk); (try clear hi)) | ((with_reducible refine gate_dst (N := 5) rfl ?_); refine be 5 #[.string (⟨#[]⟩ : ByteArray), .string (⟨#[]⟩ : ByteArray), .int .i64 0, .int .i64 0, .int .i64 0] 52 ?_; intro gb867 hg w17 hbox hb; have n0 := ra (Kd.R_below (rq HO854) hb); have n1 := ra (Kd.R_below (rq HO858) hb); have n2 := bb (bk BK859) hb; have n3 := bb (bk BK860) hb; have n4 := bs hb; have n5 := ra (hbox); have n6 := bz (w0 := w) hg; have n7 := bz (w0 := w) hg; have n8_ := bn hg (bk BK859); have n9_ := bm hg (bk BK859); have n10_ := bn hg (bk BK860); have n11_ := bm hg (bk BK860); clear HO854 HO858 BK859 BK860 HB; have HO854 := n0; have HO858 := n1; have BK859 := n2; have BK860 := n3; have HB := n4; have BK867 := n5; have GW867 := n6; have GE867 := n7; have NB859_867 := n8_; have NB867_859 := n9_; have NB860_867 := n10_; have NB867_860 := n11_; clear n0 n1 n2 n3 n4 n5 n6 n7 n8_ n9_ n10_ n11_; clear hb hbox hg; have hnb18 := NB867_859.out; have hnc18 := NB859_867.out; have hnb19 := NB867_860.out; have hnc19 := NB860_867.out; obtain ⟨hcz20_0, hcz20_1, hcz20_2, hcz20_3, hcz20_4, hfz20_0, hfz20_1, hfz20_2, hfz20_3, hfz20_4⟩ := zc5 BK867; obtain ⟨hcz21_0, hcz21_1, hfz21_0, hfz21_1⟩ := zc2 BK859; obtain ⟨hcz22_0, hcz22_1, hfz22_0, hfz22_1⟩ := zc2 BK860) | ((with_reducible refine gate_callee (f := 32) rfl ?_); refine gl (some 29) Try.func32 #[.agg #[.string t851, .slice Ao13 t852.length co13], .agg #[.string t855, .slice Ao15 t856.length co15]] ?_; (with_reducible refine (spec_ProbeMeet.calls k t851 _ _ t852 t855 _ _ t856 t868 t869 t870 t871 t872 t873 _ ?side1 ?side2 ?side3 ?side4 A5.out).mono ?_); (case side1 => refine (Kd.R_reads' (e := 26) (base := w.heap.size) (ok := fun k_ => some k_ ≠ (.slice Ao15 t856.length co15 : Value).ownBlock) (n := t852.length) (c := co13) ?_).2.2; exact (Kd.R_mono (rf (Kd.R_types HO854.out BK867.out (by decide))) (fun _ h_ => h_.1))); (case side2 => exact (Kd.R_reads' HO854.out).2.1); (case side3 => refine (Kd.R_reads' (e := 26) (base := w.heap.size) (ok := fun k_ => some k_ ≠ (.slice Ao13 t852.length co13 : Value).ownBlock) (n := t856.length) (c := co15) ?_).2.2; exact (Kd.R_mono (rf (Kd.R_types HO858.out BK867.out (by decide))) (fun _ h_ => h_.1))); (case side4 => exact (Kd.R_reads' HO858.out).2.1); rintro e w23 ⟨rfl, hb⟩; refine ⟨_, rfl, ?_⟩; have n0 := ra (Kd.R_below (Kd.R_mono (rf (Kd.R_types HO854.out BK867.out (by decide))) (fun _ h_ => h_.1)) hb); have n1 := ra (Kd.R_below (Kd.R_mono (rf (Kd.R_types HO858.out BK867.out (by decide))) (fun _ h_ => h_.1)) hb); have n2 := bb (bk BK859) hb; have n3 := bb (bk BK860) hb; have n4 := bb (o := .cells #[.string t861, .string t862, .int .i64 t863, .int .i64 t864, .int .i64 t865] 52 (0, 0)) (bp BK867) hb; have n5 := bs hb; clear HO854 HO858 BK859 BK860 BK867 HB; have HO854 := n0; have HO858 := n1; have BK859 := n2; have BK860 := n3; have BK867 := n4; have HB := n5; clear n0 n1 n2 n3 n4 n5; (try clear hb); (try clear hb2); (try clear hk); (try clear hi)) | ((with_reducible refine gate_dst (N := 7) rfl ?_); refine be 7 #[.string (⟨#[]⟩ : ByteArray), .string (⟨#[]⟩ : ByteArray), .int .i64 0, .int .i64 0, .int .i64 0] 52 ?_; intro gb874 hg w24 hbox hb; have n0 := ra (Kd.R_below (rq HO854) hb); have n1 := ra (Kd.R_below (rq HO858) hb); have n2 := bb (bk BK859) hb; have n3 := bb (bk BK860) hb; have n4 := bb (bk BK867) hb; have n5 := bs hb; have n6 := ra (hbox); have n7 := bz (w0 := w) hg; have n8_ := bz (w0 := w) hg; have n9_ := bn hg (bk BK859); have n10_ := bm hg (bk BK859); have n11_ := bn hg (bk BK860); have n12_ := bm hg (bk BK860); have n13_ := bn hg (bk BK867); have n14_ := bm hg (bk BK867); clear HO854 HO858 BK859 BK860 BK867 HB; have HO854 := n0; have HO858 := n1; have BK859 := n2; have BK860 := n3; have BK867 := n4; have HB := n5; have BK874 := n6; have GW874 := n7; have GE874 := n8_; have NB859_874 := n9_; have NB874_859 := n10_; have NB860_874 := n11_; have NB874_860 := n12_; have NB867_874 := n13_; have NB874_867 := n14_; clear n0 n1 n2 n3 n4 n5 n6 n7 n8_ n9_ n10_ n11_ n12_ n13_ n14_; clear hb hbox hg; have hnb25 := NB874_859.out; have hnc25 := NB859_874.out; have hnb26 := NB874_860.out; have hnc26 := NB860_874.out; have hnb27 := NB874_867.out; have hnc27 := NB867_874.out; obtain ⟨hcz28_0, hcz28_1, hcz28_2, hcz28_3, hcz28_4, hfz28_0, hfz28_1, hfz28_2, hfz28_3, hfz28_4⟩ := zc5 BK874; obtain ⟨hcz29_0, hcz29_1, hfz29_0, hfz29_1⟩ := zc2 BK860; obtain ⟨hcz30_0, hcz30_1, hfz30_0, hfz30_1⟩ := zc2 BK859) | ((with_reducible refine gate_callee (f := 33) rfl ?_); refine gl (some 35) Try.func33 #[.agg #[.string t855, .slice Ao15 t856.length co15], .agg #[.string t851, .slice Ao13 t852.length co13]] ?_; (with_reducible refine (impl_ProbeMeet.calls k t855 _ _ t856 t851 _ _ t852 t875 t876 t877 t878 t879 t880 _ ?side1 ?side2 ?side3 ?side4 A6.out).mono ?_); (case side1 => refine (Kd.R_reads' (e := 26) (base := w.heap.size) (ok := fun k_ => some k_ ≠ (.slice Ao13 t852.length co13 : Value).ownBlock) (n := t856.length) (c := co15) ?_).2.2; exact (Kd.R_mono (rf (Kd.R_types HO858.out BK874.out (by decide))) (fun _ h_ => h_.1))); (case side2 => exact (Kd.R_reads' HO858.out).2.1); (case side3 => refine (Kd.R_reads' (e := 26) (base := w.heap.size) (ok := fun k_ => some k_ ≠ (.slice Ao15 t856.length co15 : Value).ownBlock) (n := t852.length) (c := co13) ?_).2.2; exact (Kd.R_mono (rf (Kd.R_types HO854.out BK874.out (by decide))) (fun _ h_ => h_.1))); (case side4 => exact (Kd.R_reads' HO854.out).2.1); rintro e w31 ⟨rfl, hb⟩; refine ⟨_, rfl, ?_⟩; have n0 := ra (Kd.R_below (Kd.R_mono (rf (Kd.R_types HO854.out BK874.out (by decide))) (fun _ h_ => h_.1)) hb); have n1 := ra (Kd.R_below (Kd.R_mono (rf (Kd.R_types HO858.out BK874.out (by decide))) (fun _ h_ => h_.1)) hb); have n2 := bb (bk BK859) hb; have n3 := bb (bk BK860) hb; have n4 := bb (bk BK867) hb; have n5 := bb (o := .cells #[.string t868, .string t869, .int .i64 t870, .int .i64 t871, .int .i64 t872] 52 (0, 0)) (bp BK874) hb; have n6 := bs hb; clear HO854 HO858 BK859 BK860 BK867 BK874 HB; have HO854 := n0; have HO858 := n1; have BK859 := n2; have BK860 := n3; have BK867 := n4; have BK874 := n5; have HB := n6; clear n0 n1 n2 n3 n4 n5 n6; (try clear hb); (try clear hb2); (try clear hk); (try clear hi)) | ((with_reducible refine gate_dst (N := 9) rfl ?_); refine be 9 #[.string (⟨#[]⟩ : ByteArray), .string (⟨#[]⟩ : ByteArray), .int .i64 0, .int .i64 0, .int .i64 0] 52 ?_; intro gb881 hg w32 hbox hb; have n0 := ra (Kd.R_below (rq HO854) hb); have n1 := ra (Kd.R_below (rq HO858) hb); have n2 := bb (bk BK859) hb; have n3 := bb (bk BK860) hb; have n4 := bb (bk BK867) hb; have n5 := bb (bk BK874) hb; have n6 := bs hb; have n7 := ra (hbox); have n8_ := bz (w0 := w) hg; have n9_ := bz (w0 := w) hg; have n10_ := bn hg (bk BK859); have n11_ := bm hg (bk BK859); have n12_ := bn hg (bk BK860); have n13_ := bm hg (bk BK860); have n14_ := bn hg (bk BK867); have n15_ := bm hg (bk BK867); have n16_ := bn hg (bk BK874); have n17_ := bm hg (bk BK874); clear HO854 HO858 BK859 BK860 BK867 BK874 HB; have HO854 := n0; have HO858 := n1; have BK859 := n2; have BK860 := n3; have BK867 := n4; have BK874 := n5; have HB := n6; have BK881 := n7; have GW881 := n8_; have GE881 := n9_; have NB859_881 := n10_; have NB881_859 := n11_; have NB860_881 := n12_; have NB881_860 := n13_; have NB867_881 := n14_; have NB881_867 := n15_; have NB874_881 := n16_; have NB881_874 := n17_; clear n0 n1 n2 n3 n4 n5 n6 n7 n8_ n9_ n10_ n11_ n12_ n13_ n14_ n15_ n16_ n17_; clear hb hbox hg; have hnb33 := NB881_859.out; have hnc33 := NB859_881.out; have hnb34 := NB881_860.out; have hnc34 := NB860_881.out; have hnb35 := NB881_867.out; have hnc35 := NB867_881.out; have hnb36 := NB881_874.out; have hnc36 := NB874_881.out; obtain ⟨hcz37_0, hcz37_1, hcz37_2, hcz37_3, hcz37_4, hfz37_0, hfz37_1, hfz37_2, hfz37_3, hfz37_4⟩ := zc5 BK881))
  (try simp only [Act.put, List.setIfInBounds_toArray, List.set_cons_zero, List.set_cons_succ])
  go_cut [50] (fun v50 wc => ∃ (kq : Nat) (x50_6 : Bool), v50 = .bool x50_6 ∧ Aside0 (laws_FnMeet.j0 kq t866 x50_6 t851 t852 t855 t856 t861 t862 t863 t864 t865 t875 t876 t877 t878 t879 = some true) ∧ Aside0 (kq ≤ k) ∧ Aside0 (Kd.R k26 26 wc w.heap.size (fun k_ => some k_ ≠ ((.slice Ao15 t856.length co15) : Value).ownBlock) (.slice Ao13 t852.length co13) t852) ∧ Aside0 (Kd.R k26 26 wc w.heap.size (fun k_ => some k_ ≠ ((.slice Ao13 t852.length co13) : Value).ownBlock) (.slice Ao15 t856.length co15) t856) ∧ Aside0 (wc.heap[gb859]? = some (.cells #[.string t851, (.slice Ao13 t852.length co13)] 39 (0, 0))) ∧ Aside0 (wc.heap[gb860]? = some (.cells #[.string t855, (.slice Ao15 t856.length co15)] 39 (0, 0))) ∧ Aside0 (wc.heap[gb867]? = some (.cells #[.string t861, .string t862, .int .i64 t863, .int .i64 t864, .int .i64 t865] 52 (0, 0))) ∧ Aside0 (wc.heap[gb874]? = some (.cells #[.string t868, .string t869, .int .i64 t870, .int .i64 t871, .int .i64 t872] 52 (0, 0))) ∧ Aside0 (wc.heap[gb881]? = some (.cells #[.string t875, .string t876, .int .i64 t877, .int .i64 t878, .int .i64 t879] 52 (0, 0))) ∧ Aside0 (Below w.heap.size w wc))
  case first =>
   have H := HC7.out
   clear HC7
   by_cases c38 : (t866 != t873) = true
   ·rw [if_pos c38] at H
    have c38b0 : (t866 != t873) = true := c38
    (try (have c38b1 : decide (t866 = t873) = false := by simpa using c38))
    (try (have c38b2 : (t866 == t873) = false := by simpa using c38))
    (try (have c38b3 : ¬ (t866 = t873) := by simpa using c38))
    clear c38
    (first | rw [c38b0] | (simp only [i64_w, i32_w]; rw [c38b0]) | skip)
    have H' := Aside0.mk H
    clear H
    go_wp2
    go_meet
    case rel => exact ⟨_, (true), rs, H', ⟨by first | omega | exact Nat.le_refl _⟩, ⟨by (with_reducible repeat (first | apply Kd.R_alloc | apply Kd.R_drewN | apply Kd.R_drew)); exact Kd.R_mono (rf (Kd.R_types HO854.out BK881.out (by decide))) (fun _ hk => hk.1)⟩, ⟨by (with_reducible repeat (first | apply Kd.R_alloc | apply Kd.R_drewN | apply Kd.R_drew)); exact Kd.R_mono (rf (Kd.R_types HO858.out BK881.out (by decide))) (fun _ hk => hk.1)⟩, ⟨bk BK859⟩, ⟨bk BK860⟩, ⟨bk BK867⟩, ⟨bk BK874⟩, ⟨bp BK881⟩, ⟨bq⟩⟩
   ·rw [if_neg c38] at H
    have c38b0 : (t866 != t873) = false := by simpa using c38
    (try (have c38b1 : decide (t866 = t873) = true := by simpa using c38))
    (try (have c38b2 : (t866 == t873) = true := by simpa using c38))
    clear c38
    (first | rw [c38b0] | (simp only [i64_w, i32_w]; rw [c38b0]) | skip)
    by_cases c39 : (!(t861.toList == t868.toList) || (!(t862.toList == t869.toList) || (!(t863 == t870) || (!(t864 == t871) || (!(t865 == t872)))))) = true
    ·rw [if_pos c39] at H
     have c39b0 : (!(t861.toList == t868.toList) || (!(t862.toList == t869.toList) || (!(t863 == t870) || (!(t864 == t871) || (!(t865 == t872)))))) = true := c39
     clear c39
     have H' := Aside0.mk H
     clear H
     have hnb40 := NB867_859.out
     have hnc40 := NB859_867.out
     have hnb41 := NB867_860.out
     have hnc41 := NB860_867.out
     have hnb42 := NB867_874.out
     have hnc42 := NB874_867.out
     have hnb43 := NB867_881.out
     have hnc43 := NB881_867.out
     obtain ⟨hcz44_0, hcz44_1, hcz44_2, hcz44_3, hcz44_4, hfz44_0, hfz44_1, hfz44_2, hfz44_3, hfz44_4⟩ := zc5 BK867
     have hnb45 := NB874_859.out
     have hnc45 := NB859_874.out
     have hnb46 := NB874_860.out
     have hnc46 := NB860_874.out
     have hnb47 := NB874_881.out
     have hnc47 := NB881_874.out
     obtain ⟨hcz48_0, hcz48_1, hcz48_2, hcz48_3, hcz48_4, hfz48_0, hfz48_1, hfz48_2, hfz48_3, hfz48_4⟩ := zc5 BK874
     go_wp2
     go_meet
     case rel => exact ⟨_, (true), rs, H', ⟨by first | omega | exact Nat.le_refl _⟩, ⟨by (with_reducible repeat (first | apply Kd.R_alloc | apply Kd.R_drewN | apply Kd.R_drew)); exact Kd.R_mono (rf (Kd.R_types HO854.out BK881.out (by decide))) (fun _ hk => hk.1)⟩, ⟨by (with_reducible repeat (first | apply Kd.R_alloc | apply Kd.R_drewN | apply Kd.R_drew)); exact Kd.R_mono (rf (Kd.R_types HO858.out BK881.out (by decide))) (fun _ hk => hk.1)⟩, ⟨bk BK859⟩, ⟨bk BK860⟩, ⟨bk BK867⟩, ⟨bk BK874⟩, ⟨bp BK881⟩, ⟨bq⟩⟩
    ·rw [if_neg c39] at H
     have c39b0 : (!(t861.toList == t868.toList) || (!(t862.toList == t869.toList) || (!(t863 == t870) || (!(t864 == t871) || (!(t865 == t872)))))) = false := by simpa using c39
     clear c39
     have H' := Aside0.mk H
     clear H
     have hnb49 := NB867_859.out
     have hnc49 := NB859_867.out
     have hnb50 := NB867_860.out
     have hnc50 := NB860_867.out
     have hnb51 := NB867_874.out
     have hnc51 := NB874_867.out
     have hnb52 := NB867_881.out
     have hnc52 := NB881_867.out
     obtain ⟨hcz53_0, hcz53_1, hcz53_2, hcz53_3, hcz53_4, hfz53_0, hfz53_1, hfz53_2, hfz53_3, hfz53_4⟩ := zc5 BK867
     have hnb54 := NB874_859.out
     have hnc54 := NB859_874.out
     have hnb55 := NB874_860.out
     have hnc55 := NB860_874.out
     have hnb56 := NB874_881.out
     have hnc56 := NB881_874.out
     obtain ⟨hcz57_0, hcz57_1, hcz57_2, hcz57_3, hcz57_4, hfz57_0, hfz57_1, hfz57_2, hfz57_3, hfz57_4⟩ := zc5 BK874
     go_wp2
     go_meet
     case rel => exact ⟨_, ((t866 != t880)), rs, H', ⟨by first | omega | exact Nat.le_refl _⟩, ⟨by (with_reducible repeat (first | apply Kd.R_alloc | apply Kd.R_drewN | apply Kd.R_drew)); exact Kd.R_mono (rf (Kd.R_types HO854.out BK881.out (by decide))) (fun _ hk => hk.1)⟩, ⟨by (with_reducible repeat (first | apply Kd.R_alloc | apply Kd.R_drewN | apply Kd.R_drew)); exact Kd.R_mono (rf (Kd.R_types HO858.out BK881.out (by decide))) (fun _ hk => hk.1)⟩, ⟨bk BK859⟩, ⟨bk BK860⟩, ⟨bk BK867⟩, ⟨bk BK874⟩, ⟨bp BK881⟩, ⟨bq⟩⟩
  case rest =>
   clear HC7
   try clear c2
   try clear c2b0
   try clear c2b1
   try clear c38
   try clear c38b0
   try clear c38b1
   try clear c38b2
   try clear c39
   try clear c39b0
   try clear hcz12_0
   try clear hcz12_1
   try clear hcz14_0
   try clear hcz14_1
   try clear hcz20_0
   try clear hcz20_1
   try clear hcz20_2
   try clear hcz20_3
   try clear hcz20_4
   try clear hcz21_0
   try clear hcz21_1
   try clear hcz22_0
   try clear hcz22_1
   try clear hcz28_0
   try clear hcz28_1
   try clear hcz28_2
   try clear hcz28_3
   try clear hcz28_4
   try clear hcz29_0
   try clear hcz29_1
   try clear hcz30_0
   try clear hcz30_1
   try clear hcz37_0
   try clear hcz37_1
   try clear hcz37_2
   try clear hcz37_3
   try clear hcz37_4
   try clear hcz44_0
   try clear hcz44_1
   try clear hcz44_2
   try clear hcz44_3
   try clear hcz44_4
   try clear hcz48_0
   try clear hcz48_1
   try clear hcz48_2
   try clear hcz48_3
   try clear hcz48_4
   try clear hcz53_0
   try clear hcz53_1
   try clear hcz53_2
   try clear hcz53_3
   try clear hcz53_4
   try clear hcz57_0
   try clear hcz57_1
   try clear hcz57_2
   try clear hcz57_3
   try clear hcz57_4
   try clear hfz12_0
   try clear hfz12_1
   try clear hfz14_0
   try clear hfz14_1
   try clear hfz20_0
   try clear hfz20_1
   try clear hfz20_2
   try clear hfz20_3
   try clear hfz20_4
   try clear hfz21_0
   try clear hfz21_1
   try clear hfz22_0
   try clear hfz22_1
   try clear hfz28_0
   try clear hfz28_1
   try clear hfz28_2
   try clear hfz28_3
   try clear hfz28_4
   try clear hfz29_0
   try clear hfz29_1
   try clear hfz30_0
   try clear hfz30_1
   try clear hfz37_0
   try clear hfz37_1
   try clear hfz37_2
   try clear hfz37_3
   try clear hfz37_4
   try clear hfz44_0
   try clear hfz44_1
   try clear hfz44_2
   try clear hfz44_3
   try clear hfz44_4
   try clear hfz48_0
   try clear hfz48_1
   try clear hfz48_2
   try clear hfz48_3
   try clear hfz48_4
   try clear hfz53_0
   try clear hfz53_1
   try clear hfz53_2
   try clear hfz53_3
   try clear hfz53_4
   try clear hfz57_0
   try clear hfz57_1
   try clear hfz57_2
   try clear hfz57_3
   try clear hfz57_4
   obtain ⟨kq, x50_6, rfl, HA, HJ6, HO_860001, HO_861001, BK859, BK860, BK867, BK874, BK881, HB⟩ := hcut
   cases kq with
   | zero => exact absurd HA.out (by simp [laws_FnMeet.j0])
   | succ kj6 =>
    have H := HA.out
    clear HA
    simp only [laws_FnMeet.j0] at H
    by_cases c58 : x50_6 = true
    ·subst c58
     have H1 : (some false) = some true := by rw [if_pos rfl] at H; exact H
     clear H
     have H := H1
     exact absurd (Option.some.inj H) (by decide)
    ·replace c58 := Bool.eq_false_iff.mpr c58
     subst c58
     have H1 : (if t866 = true then (if t877 = t863 then (if t861.toList = t851.toList then (if t862.toList = t855.toList then (if 0 ≤ t864 then (if t864 < (t852.length : Int) then (if 0 ≤ t865 then (if t865 < (t856.length : Int) then ((laws_wNear.f kj6 ((rd_T26 t852 t864).f0) ((rd_T26 t852 t864).f1) ((rd_T26 t852 t864).f2) ((rd_T26 t852 t864).f3) ((rd_T26 t852 t864).f4) ((rd_T26 t852 t864).f5) ((rd_T26 t856 t865).f0) ((rd_T26 t856 t865).f1) ((rd_T26 t856 t865).f2) ((rd_T26 t856 t865).f3) ((rd_T26 t856 t865).f4) ((rd_T26 t856 t865).f5) t863).bind fun t887 => (laws_FnMeet.j1 kj6 (!t887) t851 t852 t855 t856 t861 t862 t863 t864 t865)) else (none)) else (none)) else (none)) else (none)) else (laws_FnMeet.j1 kj6 true t851 t852 t855 t856 t861 t862 t863 t864 t865)) else (laws_FnMeet.j1 kj6 true t851 t852 t855 t856 t861 t862 t863 t864 t865)) else (laws_FnMeet.j1 kj6 true t851 t852 t855 t856 t861 t862 t863 t864 t865)) else (if (t861.toList == ([] : List UInt8) && (t862.toList == ([] : List UInt8) && (t863 == 0 && (t864 == 0 && (t865 == 0))))) = true then ((spec_ProbeTubeOk.f kj6 t851 t852).bind fun t882 => (if t882 = true then ((spec_ProbeTubeOk.f kj6 t855 t856).bind fun t883 => (if t883 = true then ((laws_wEver.f kj6 t851 t852 t855 t856).bind fun t884 => (some (!t884))) else (some true))) else (some true))) else (some false))) = some true := by rw [if_neg (show ¬ (false = true) by decide)] at H; exact H
     clear H
     have H := H1
     clear H1
     by_cases c59 : t866 = true
     ·subst c59
      replace H := it H rfl
      have HC60 := Aside0.mk H
      clear H
      go_upto_region 11 with (fail)
      go_cut [108] (fun v108 wc => ∃ (kq : Nat) (x108_59 : Bool), v108 = .bool x108_59 ∧ Aside0 (laws_FnMeet.j1 kq x108_59 t851 t852 t855 t856 t861 t862 t863 t864 t865 = some true) ∧ Aside0 (kq ≤ kj6) ∧ Aside0 (Kd.R k26 26 wc w.heap.size (fun k_ => some k_ ≠ ((.slice Ao15 t856.length co15) : Value).ownBlock) (.slice Ao13 t852.length co13) t852) ∧ Aside0 (Kd.R k26 26 wc w.heap.size (fun k_ => some k_ ≠ ((.slice Ao13 t852.length co13) : Value).ownBlock) (.slice Ao15 t856.length co15) t856) ∧ Aside0 (wc.heap[gb859]? = some (.cells #[.string t851, (.slice Ao13 t852.length co13)] 39 (0, 0))) ∧ Aside0 (wc.heap[gb860]? = some (.cells #[.string t855, (.slice Ao15 t856.length co15)] 39 (0, 0))) ∧ Aside0 (wc.heap[gb867]? = some (.cells #[.string t861, .string t862, .int .i64 t863, .int .i64 t864, .int .i64 t865] 52 (0, 0))) ∧ Aside0 (wc.heap[gb874]? = some (.cells #[.string t868, .string t869, .int .i64 t870, .int .i64 t871, .int .i64 t872] 52 (0, 0))) ∧ Aside0 (wc.heap[gb881]? = some (.cells #[.string t875, .string t876, .int .i64 t877, .int .i64 t878, .int .i64 t879] 52 (0, 0))) ∧ Aside0 (Below w.heap.size w wc))
      case first =>
       have H := HC60.out
       clear HC60
       by_cases c61 : t877 = t863
       ·rw [if_pos c61] at H
        have c61b0 : (t877 == t863) = true := beq_iff_eq.mpr c61
        have c61b1 : (t877 != t863) = false := bne_eq_false_iff_eq.mpr c61
        clear c61
        (first | rw [c61b0] | (simp only [i64_w, i32_w]; rw [c61b0]) | skip)
        by_cases c62 : t861.toList = t851.toList
        ·rw [if_pos c62] at H
         have c62b0 : (t861.toList == t851.toList) = true := beq_iff_eq.mpr c62
         have c62b1 : (t861.toList != t851.toList) = false := bne_eq_false_iff_eq.mpr c62
         clear c62
         by_cases c63 : t862.toList = t855.toList
         ·rw [if_pos c63] at H
          have c63b0 : (t862.toList == t855.toList) = true := beq_iff_eq.mpr c63
          have c63b1 : (t862.toList != t855.toList) = false := bne_eq_false_iff_eq.mpr c63
          clear c63
          by_cases c64 : 0 ≤ t864
          ·rw [if_pos c64] at H
           have c64b0 : decide (0 ≤ t864) = true := decide_eq_true c64
           clear c64
           by_cases c65 : t864 < (t852.length : Int)
           ·rw [if_pos c65] at H
            have c65b0 : decide (t864 < (t852.length : Int)) = true := decide_eq_true c65
            clear c65
            by_cases c66 : 0 ≤ t865
            ·rw [if_pos c66] at H
             have c66b0 : decide (0 ≤ t865) = true := decide_eq_true c66
             clear c66
             by_cases c67 : t865 < (t856.length : Int)
             ·rw [if_pos c67] at H
              have c67b0 : decide (t865 < (t856.length : Int)) = true := decide_eq_true c67
              clear c67
              obtain ⟨t887, A68, H⟩ := bo H
              have H' := Aside0.mk H
              clear H
              try go_wp2
              have n0 := ra (Kd.R_drew HO_860001.out)
              have n1 := ra (Kd.R_drew HO_861001.out)
              have n2 := ra (blk_drew BK859.out)
              have n3 := ra (blk_drew BK860.out)
              have n4 := ra (blk_drew BK867.out)
              have n5 := ra (blk_drew BK874.out)
              have n6 := ra (blk_drew BK881.out)
              have n7 := ra (below_drew1 HB.out)
              clear HO_860001 HO_861001 BK859 BK860 BK867 BK874 BK881 HB
              have HO_860001 := n0
              have HO_861001 := n1
              have BK859 := n2
              have BK860 := n3
              have BK867 := n4
              have BK874 := n5
              have BK881 := n6
              have HB := n7
              clear n0 n1 n2 n3 n4 n5 n6 n7
              have p885 : 0 ≤ (t864 : Int) := od
              have q885 : t864 < (t852.length : Int) := od
              obtain ⟨ad885, e885, hx885_0, hx885_1, hx885_2, hx885_3, hx885_4, hx885_5⟩ := at_T26 (Kd.R_reads' HO_860001.out).2.2 t864 p885 q885
              cases e885
              replace p885 := eq_true p885
              replace q885 := eq_true q885
              have p886 : 0 ≤ (t865 : Int) := od
              have q886 : t865 < (t856.length : Int) := od
              obtain ⟨ad886, e886, hx886_0, hx886_1, hx886_2, hx886_3, hx886_4, hx886_5⟩ := at_T26 (Kd.R_reads' HO_861001.out).2.2 t865 p886 q886
              cases e886
              replace p886 := eq_true p886
              replace q886 := eq_true q886
              refine start_ (n := 37) (S := fun w' => w'.cell? ⟨gb881, 0, none⟩ = some (.string t875) ∧ w'.cell? ⟨gb881, 1, none⟩ = some (.string t876) ∧ w'.cell? ⟨gb881, 2, none⟩ = some (.int .i64 t877) ∧ w'.cell? ⟨gb881, 3, none⟩ = some (.int .i64 t878) ∧ w'.cell? ⟨gb881, 4, none⟩ = some (.int .i64 t879) ∧ w'.cell? ⟨gb867, 0, none⟩ = some (.string t861) ∧ w'.cell? ⟨gb867, 1, none⟩ = some (.string t862) ∧ w'.cell? ⟨gb867, 2, none⟩ = some (.int .i64 t863) ∧ w'.cell? ⟨gb867, 3, none⟩ = some (.int .i64 t864) ∧ w'.cell? ⟨gb867, 4, none⟩ = some (.int .i64 t865) ∧ w'.cell? ⟨gb859, 0, none⟩ = some (.string t851) ∧ w'.cell? ⟨gb859, 1, none⟩ = some (.slice (some ad885) t852.length co13) ∧ w'.cell? ⟨gb860, 0, none⟩ = some (.string t855) ∧ w'.cell? ⟨gb860, 1, none⟩ = some (.slice (some ad886) t856.length co15) ∧ w'.cell? (ad885.add ((t864).toNat * 6)) = some (.int .i64 ((rd_T26 t852 t864).f0)) ∧ w'.cell? ⟨(ad885.add ((t864).toNat * 6)).block, (ad885.add ((t864).toNat * 6)).off + 1, none⟩ = some (.int .i64 ((rd_T26 t852 t864).f1)) ∧ w'.cell? ⟨(ad885.add ((t864).toNat * 6)).block, (ad885.add ((t864).toNat * 6)).off + 2, none⟩ = some (.int .i64 ((rd_T26 t852 t864).f2)) ∧ w'.cell? ⟨(ad885.add ((t864).toNat * 6)).block, (ad885.add ((t864).toNat * 6)).off + 3, none⟩ = some (.int .i64 ((rd_T26 t852 t864).f3)) ∧ w'.cell? ⟨(ad885.add ((t864).toNat * 6)).block, (ad885.add ((t864).toNat * 6)).off + 4, none⟩ = some (.int .i64 ((rd_T26 t852 t864).f4)) ∧ w'.cell? ⟨(ad885.add ((t864).toNat * 6)).block, (ad885.add ((t864).toNat * 6)).off + 5, none⟩ = some (.int .i64 ((rd_T26 t852 t864).f5)) ∧ w'.cell? (ad886.add ((t865).toNat * 6)) = some (.int .i64 ((rd_T26 t856 t865).f0)) ∧ w'.cell? ⟨(ad886.add ((t865).toNat * 6)).block, (ad886.add ((t865).toNat * 6)).off + 1, none⟩ = some (.int .i64 ((rd_T26 t856 t865).f1)) ∧ w'.cell? ⟨(ad886.add ((t865).toNat * 6)).block, (ad886.add ((t865).toNat * 6)).off + 2, none⟩ = some (.int .i64 ((rd_T26 t856 t865).f2)) ∧ w'.cell? ⟨(ad886.add ((t865).toNat * 6)).block, (ad886.add ((t865).toNat * 6)).off + 3, none⟩ = some (.int .i64 ((rd_T26 t856 t865).f3)) ∧ w'.cell? ⟨(ad886.add ((t865).toNat * 6)).block, (ad886.add ((t865).toNat * 6)).off + 4, none⟩ = some (.int .i64 ((rd_T26 t856 t865).f4)) ∧ w'.cell? ⟨(ad886.add ((t865).toNat * 6)).block, (ad886.add ((t865).toNat * 6)).off + 5, none⟩ = some (.int .i64 ((rd_T26 t856 t865).f5))) (ds := []) (bl 37 0) (by kernel_rfl) rfl rfl ⟨(blk_cell BK881.out 0).trans rfl, (blk_cell BK881.out 1).trans rfl, (blk_cell BK881.out 2).trans rfl, (blk_cell BK881.out 3).trans rfl, (blk_cell BK881.out 4).trans rfl, (blk_cell BK867.out 0).trans rfl, (blk_cell BK867.out 1).trans rfl, (blk_cell BK867.out 2).trans rfl, (blk_cell BK867.out 3).trans rfl, (blk_cell BK867.out 4).trans rfl, (blk_cell BK859.out 0).trans rfl, (blk_cell BK859.out 1).trans rfl, (blk_cell BK860.out 0).trans rfl, (blk_cell BK860.out 1).trans rfl, hx885_0, hx885_1, hx885_2, hx885_3, hx885_4, hx885_5, hx886_0, hx886_1, hx886_2, hx886_3, hx886_4, hx886_5⟩ (fun hHeld => ?_); refine with_tabW laws_FnMeet.tab11 laws_FnMeet.bits11 (fun HT_ HW_ => ?_)
              generalize wc.drew = w69 at HO_860001 HO_861001 BK859 BK860 BK867 BK874 BK881 HB hx885_0 hx885_1 hx885_2 hx885_3 hx885_4 hx885_5 hx886_0 hx886_1 hx886_2 hx886_3 hx886_4 hx886_5 hHeld ⊢
              refine pu 0 72 (bl 37 1) ?_
              refine pu 2 74 (bl 37 5) ?_
              refine tk 1 73 (bl 37 7) ?_ hHeld
              refine tk 3 75 (bl 37 15) ?_ hHeld
              refine pu 4 76 (bl 37 31) ?_
              refine pu 5 77 (bl 37 63) ?_
              refine pu 6 78 (bl 37 127) ?_
              refine pu 8 80 (bl 37 383) ?_
              refine tk 7 79 (bl 37 511) ?_ hHeld
              refine tk 9 81 (bl 37 1023) ?_ hHeld
              refine pu 10 82 (bl 37 2047) ?_
              refine pu 11 83 (bl 37 4095) ?_
              refine pu 12 84 (bl 37 8191) ?_
              refine pu 13 85 (bl 37 16383) ?_
              refine pu 15 87 (bl 37 49151) ?_
              refine tk 14 86 (bl 37 65535) ?_ hHeld
              refine tk 16 88 (bl 37 131071) ?_ hHeld
              refine pu 17 89 (bl 37 262143) ?_
              refine pu 18 90 (bl 37 524287) ?_
              refine pu 19 91 (bl 37 1048575) ?_
              refine pu 20 92 (bl 37 2097151) ?_
              refine pu 22 94 (bl 37 6291455) ?_
              refine pu 26 98 (bl 37 73400319) ?_
              refine pu 28 100 (bl 37 341835775) ?_
              refine pu 32 104 (bl 37 4636803071) ?_
              refine tk 21 93 (bl 37 4638900223) ?_ hHeld
              refine tk 23 95 (bl 37 4647288831) ?_ hHeld
              refine pu 24 96 (bl 37 4664066047) ?_
              refine tk 25 97 (bl 37 4697620479) ?_ hHeld
              refine tk 27 99 (bl 37 4831838207) ?_ hHeld
              refine tk 29 101 (bl 37 5368709119) ?_ hHeld
              refine pu 30 102 (bl 37 6442450943) ?_
              refine tk 31 103 (bl 37 8589934591) ?_ hHeld
              refine tk 33 105 (bl 37 17179869183) ?_ hHeld
              refine oe 34 106 (bl 37 34359738367) (fun K hK => ?_)
              refine gs Try.func46 #[.agg #[.int .i64 ((rd_T26 t852 t864).f0), .int .i64 ((rd_T26 t852 t864).f1), .int .i64 ((rd_T26 t852 t864).f2), .int .i64 ((rd_T26 t852 t864).f3), .int .i64 ((rd_T26 t852 t864).f4), .int .i64 ((rd_T26 t852 t864).f5)], .agg #[.int .i64 ((rd_T26 t856 t865).f0), .int .i64 ((rd_T26 t856 t865).f1), .int .i64 ((rd_T26 t856 t865).f2), .int .i64 ((rd_T26 t856 t865).f3), .int .i64 ((rd_T26 t856 t865).f4), .int .i64 ((rd_T26 t856 t865).f5)], .int .i64 t863] ?_
              with_reducible refine (laws_wNear.calls kj6 ((rd_T26 t852 t864).f0) ((rd_T26 t852 t864).f1) ((rd_T26 t852 t864).f2) ((rd_T26 t852 t864).f3) ((rd_T26 t852 t864).f4) ((rd_T26 t852 t864).f5) ((rd_T26 t856 t865).f0) ((rd_T26 t856 t865).f1) ((rd_T26 t856 t865).f2) ((rd_T26 t856 t865).f3) ((rd_T26 t856 t865).f4) ((rd_T26 t856 t865).f5) t863 t887 _ A68.out).mono ?_
              rintro e w70 ⟨rfl, hb⟩
              have HS14_ := (hb.cell (World.block_lt_of_cell? _ _ (hHeld.2.2.2.2.2.2.2.2.2.2.2.2.2.2.1))).trans (hHeld.2.2.2.2.2.2.2.2.2.2.2.2.2.2.1)
              have HS15_ := (hb.cell (World.block_lt_of_cell? _ _ (hHeld.2.2.2.2.2.2.2.2.2.2.2.2.2.2.2.1))).trans (hHeld.2.2.2.2.2.2.2.2.2.2.2.2.2.2.2.1)
              have HS16_ := (hb.cell (World.block_lt_of_cell? _ _ (hHeld.2.2.2.2.2.2.2.2.2.2.2.2.2.2.2.2.1))).trans (hHeld.2.2.2.2.2.2.2.2.2.2.2.2.2.2.2.2.1)
              have HS17_ := (hb.cell (World.block_lt_of_cell? _ _ (hHeld.2.2.2.2.2.2.2.2.2.2.2.2.2.2.2.2.2.1))).trans (hHeld.2.2.2.2.2.2.2.2.2.2.2.2.2.2.2.2.2.1)
              have HS18_ := (hb.cell (World.block_lt_of_cell? _ _ (hHeld.2.2.2.2.2.2.2.2.2.2.2.2.2.2.2.2.2.2.1))).trans (hHeld.2.2.2.2.2.2.2.2.2.2.2.2.2.2.2.2.2.2.1)
              have HS19_ := (hb.cell (World.block_lt_of_cell? _ _ (hHeld.2.2.2.2.2.2.2.2.2.2.2.2.2.2.2.2.2.2.2.1))).trans (hHeld.2.2.2.2.2.2.2.2.2.2.2.2.2.2.2.2.2.2.2.1)
              have HS20_ := (hb.cell (World.block_lt_of_cell? _ _ (hHeld.2.2.2.2.2.2.2.2.2.2.2.2.2.2.2.2.2.2.2.2.1))).trans (hHeld.2.2.2.2.2.2.2.2.2.2.2.2.2.2.2.2.2.2.2.2.1)
              have HS21_ := (hb.cell (World.block_lt_of_cell? _ _ (hHeld.2.2.2.2.2.2.2.2.2.2.2.2.2.2.2.2.2.2.2.2.2.1))).trans (hHeld.2.2.2.2.2.2.2.2.2.2.2.2.2.2.2.2.2.2.2.2.2.1)
              have HS22_ := (hb.cell (World.block_lt_of_cell? _ _ (hHeld.2.2.2.2.2.2.2.2.2.2.2.2.2.2.2.2.2.2.2.2.2.2.1))).trans (hHeld.2.2.2.2.2.2.2.2.2.2.2.2.2.2.2.2.2.2.2.2.2.2.1)
              have HS23_ := (hb.cell (World.block_lt_of_cell? _ _ (hHeld.2.2.2.2.2.2.2.2.2.2.2.2.2.2.2.2.2.2.2.2.2.2.2.1))).trans (hHeld.2.2.2.2.2.2.2.2.2.2.2.2.2.2.2.2.2.2.2.2.2.2.2.1)
              have HS24_ := (hb.cell (World.block_lt_of_cell? _ _ (hHeld.2.2.2.2.2.2.2.2.2.2.2.2.2.2.2.2.2.2.2.2.2.2.2.2.1))).trans (hHeld.2.2.2.2.2.2.2.2.2.2.2.2.2.2.2.2.2.2.2.2.2.2.2.2.1)
              have HS25_ := (hb.cell (World.block_lt_of_cell? _ _ (hHeld.2.2.2.2.2.2.2.2.2.2.2.2.2.2.2.2.2.2.2.2.2.2.2.2.2))).trans (hHeld.2.2.2.2.2.2.2.2.2.2.2.2.2.2.2.2.2.2.2.2.2.2.2.2.2)
              refine ⟨_, rfl, ?_⟩
              have n0 := ra (Kd.R_below (rq HO_860001) hb)
              have n1 := ra (Kd.R_below (rq HO_861001) hb)
              have n2 := bb (bk BK859) hb
              have n3 := bb (bk BK860) hb
              have n4 := bb (bk BK867) hb
              have n5 := bb (bk BK874) hb
              have n6 := bb (bk BK881) hb
              have n7 := bs hb
              clear HO_860001 HO_861001 BK859 BK860 BK867 BK874 BK881 HB
              have HO_860001 := n0
              have HO_861001 := n1
              have BK859 := n2
              have BK860 := n3
              have BK867 := n4
              have BK874 := n5
              have BK881 := n6
              have HB := n7
              clear n0 n1 n2 n3 n4 n5 n6 n7
              (try clear hb)
              (try clear hb2)
              (try clear hk)
              (try clear hi)
              refine hK.out _ _ ⟨(blk_cell BK881.out 0).trans rfl, (blk_cell BK881.out 1).trans rfl, (blk_cell BK881.out 2).trans rfl, (blk_cell BK881.out 3).trans rfl, (blk_cell BK881.out 4).trans rfl, (blk_cell BK867.out 0).trans rfl, (blk_cell BK867.out 1).trans rfl, (blk_cell BK867.out 2).trans rfl, (blk_cell BK867.out 3).trans rfl, (blk_cell BK867.out 4).trans rfl, (blk_cell BK859.out 0).trans rfl, (blk_cell BK859.out 1).trans rfl, (blk_cell BK860.out 0).trans rfl, (blk_cell BK860.out 1).trans rfl, HS14_, HS15_, HS16_, HS17_, HS18_, HS19_, HS20_, HS21_, HS22_, HS23_, HS24_, HS25_⟩ (fun hHeld => ?_)
              clear hK K
              refine nm 106 ?_
              refine pu 35 107 (bl 37 68719476735) ?_
              refine pu 36 108 (bl 37 137438953471) ?_
              refine done_ (done_of HT_.out (by kernel_rfl)) ?_
              try go_wp2
              go_meet
              case rel => exact ⟨_, (!t887), rs, H', ⟨by have := HJ6.out; first | omega | exact Nat.le_refl _⟩, ⟨rq HO_860001⟩, ⟨rq HO_861001⟩, ⟨bk BK859⟩, ⟨bk BK860⟩, ⟨bk BK867⟩, ⟨bk BK874⟩, ⟨bk BK881⟩, ⟨bq⟩⟩
             ·rw [if_neg c67] at H
              exact absurd H (by simp)
            ·rw [if_neg c66] at H
             exact absurd H (by simp)
           ·rw [if_neg c65] at H
            exact absurd H (by simp)
          ·rw [if_neg c64] at H
           exact absurd H (by simp)
         ·rw [if_neg c63] at H
          exact absurd H (by cases kj6 <;> simp [laws_FnMeet.j1])
        ·rw [if_neg c62] at H
         exact absurd H (by cases kj6 <;> simp [laws_FnMeet.j1])
       ·rw [if_neg c61] at H
        exact absurd H (by cases kj6 <;> simp [laws_FnMeet.j1])
      case rest =>
       clear HC60
       try clear c61
       try clear c61b0
       try clear c61b1
       try clear c62
       try clear c62b0
       try clear c62b1
       obtain ⟨kq, x108_59, rfl, HA, HJ59, HO_860001, HO_861001, BK859, BK860, BK867, BK874, BK881, HB⟩ := hcut
       cases kq with
       | zero => exact absurd HA.out (by simp [laws_FnMeet.j1])
       | succ kj59 =>
        have H := HA.out
        clear HA
        simp only [laws_FnMeet.j1] at H
        by_cases c74 : x108_59 = true
        ·subst c74
         have H1 : (some false) = some true := by rw [if_pos rfl] at H; exact H
         clear H
         have H := H1
         exact absurd (Option.some.inj H) (by decide)
        ·replace c74 := Bool.eq_false_iff.mpr c74
         subst c74
         have H1 : (laws_FnMeet.l0 kj59 (wrap64 (t863 - 1)) t851 t852 t855 t856 t861 t862 t863 t864 t865) = some true := by rw [if_neg (show ¬ (false = true) by decide)] at H; exact H
         clear H
         have H := H1
         clear H1
         have H' := Aside0.mk H
         clear H
         have hnb75 := NB867_859.out
         have hnc75 := NB859_867.out
         have hnb76 := NB867_860.out
         have hnc76 := NB860_867.out
         have hnb77 := NB867_874.out
         have hnc77 := NB874_867.out
         have hnb78 := NB867_881.out
         have hnc78 := NB881_867.out
         obtain ⟨hcz79_0, hcz79_1, hcz79_2, hcz79_3, hcz79_4, hfz79_0, hfz79_1, hfz79_2, hfz79_3, hfz79_4⟩ := zc5 BK867
         go_wp2
         go_loopg [11] kj59 (fun kq v11 w' => ∃ (x11_3 : Int), v11 = .int .i64 x11_3 ∧ Aside0 (laws_FnMeet.l0 kq x11_3 t851 t852 t855 t856 t861 t862 t863 t864 t865 = some true) ∧ Aside0 (kq ≤ kj59) ∧ Aside0 (Kd.R k26 26 w' w.heap.size (fun k_ => some k_ ≠ ((.slice Ao15 t856.length co15) : Value).ownBlock) (.slice Ao13 t852.length co13) t852) ∧ Aside0 (Kd.R k26 26 w' w.heap.size (fun k_ => some k_ ≠ ((.slice Ao13 t852.length co13) : Value).ownBlock) (.slice Ao15 t856.length co15) t856) ∧ Aside0 (w'.heap[gb859]? = some (.cells #[.string t851, (.slice Ao13 t852.length co13)] 39 (0, 0))) ∧ Aside0 (w'.heap[gb860]? = some (.cells #[.string t855, (.slice Ao15 t856.length co15)] 39 (0, 0))) ∧ Aside0 (w'.heap[gb867]? = some (.cells #[.string t861, .string t862, .int .i64 t863, .int .i64 t864, .int .i64 t865] 52 (0, 0))) ∧ Aside0 (w'.heap[gb874]? = some (.cells #[.string t868, .string t869, .int .i64 t870, .int .i64 t871, .int .i64 t872] 52 (0, 0))) ∧ Aside0 (w'.heap[gb881]? = some (.cells #[.string t875, .string t876, .int .i64 t877, .int .i64 t878, .int .i64 t879] 52 (0, 0))) ∧ Aside0 (Below w.heap.size w w'))
         case atStart => exact ⟨(wrap64 (t863 - 1)), rs, H', ⟨Nat.le_refl _⟩, ⟨rq HO_860001⟩, ⟨rq HO_861001⟩, ⟨bk BK859⟩, ⟨bk BK860⟩, ⟨bk BK867⟩, ⟨bk BK874⟩, ⟨bk BK881⟩, ⟨bq⟩⟩
         case round =>
          clear H'
          try clear c61
          try clear c61b0
          try clear c61b1
          try clear c62
          try clear c62b0
          try clear c62b1
          try clear c74
          try clear hcz79_0
          try clear hcz79_1
          try clear hcz79_2
          try clear hcz79_3
          try clear hcz79_4
          try clear hfz79_0
          try clear hfz79_1
          try clear hfz79_2
          try clear hfz79_3
          try clear hfz79_4
          obtain ⟨x11_3, rfl, HA, HK3, HO_860001, HO_861001, BK859, BK860, BK867, BK874, BK881, HB⟩ := hrel
          cases gk with
          | zero => exact absurd HA.out (by simp [laws_FnMeet.l0])
          | succ k3 =>
           have H := HA.out
           clear HA
           simp only [laws_FnMeet.l0] at H
           have HC80 := Aside0.mk H
           clear H
           go_upto_region 14 with (fail)
           go_cut [120] (fun v120 wc => ∃ (kq : Nat) (x120_79 : Bool), v120 = .bool x120_79 ∧ Aside0 (laws_FnMeet.j3 kq x11_3 x120_79 t851 t852 t855 t856 t861 t862 t863 t864 t865 = some true) ∧ Aside0 (kq ≤ k3) ∧ Aside0 (Kd.R k26 26 wc w.heap.size (fun k_ => some k_ ≠ ((.slice Ao15 t856.length co15) : Value).ownBlock) (.slice Ao13 t852.length co13) t852) ∧ Aside0 (Kd.R k26 26 wc w.heap.size (fun k_ => some k_ ≠ ((.slice Ao13 t852.length co13) : Value).ownBlock) (.slice Ao15 t856.length co15) t856) ∧ Aside0 (wc.heap[gb859]? = some (.cells #[.string t851, (.slice Ao13 t852.length co13)] 39 (0, 0))) ∧ Aside0 (wc.heap[gb860]? = some (.cells #[.string t855, (.slice Ao15 t856.length co15)] 39 (0, 0))) ∧ Aside0 (wc.heap[gb867]? = some (.cells #[.string t861, .string t862, .int .i64 t863, .int .i64 t864, .int .i64 t865] 52 (0, 0))) ∧ Aside0 (wc.heap[gb874]? = some (.cells #[.string t868, .string t869, .int .i64 t870, .int .i64 t871, .int .i64 t872] 52 (0, 0))) ∧ Aside0 (wc.heap[gb881]? = some (.cells #[.string t875, .string t876, .int .i64 t877, .int .i64 t878, .int .i64 t879] 52 (0, 0))) ∧ Aside0 (Below w.heap.size w wc))
           case first =>
            have H := HC80.out
            clear HC80
            by_cases c81 : x11_3 ≥ 0
            ·rw [if_pos c81] at H
             have c81b0 : decide (0 ≤ x11_3) = true := decide_eq_true c81
             clear c81
             (first | rw [c81b0] | (simp only [i64_w, i32_w]; rw [c81b0]) | skip)
             have H' := Aside0.mk H
             clear H
             have hnb82 := NB867_859.out
             have hnc82 := NB859_867.out
             have hnb83 := NB867_860.out
             have hnc83 := NB860_867.out
             have hnb84 := NB867_874.out
             have hnc84 := NB874_867.out
             have hnb85 := NB867_881.out
             have hnc85 := NB881_867.out
             obtain ⟨hcz86_0, hcz86_1, hcz86_2, hcz86_3, hcz86_4, hfz86_0, hfz86_1, hfz86_2, hfz86_3, hfz86_4⟩ := zc5 BK867
             go_wp2
             go_meet
             case rel => exact ⟨_, (decide (x11_3 > (wrap64 (t863 - 40)))), rs, H', ⟨by have := HJ6.out; have := HJ59.out; have := HK3.out; first | omega | exact Nat.le_refl _⟩, ⟨rq HO_860001⟩, ⟨rq HO_861001⟩, ⟨bk BK859⟩, ⟨bk BK860⟩, ⟨bk BK867⟩, ⟨bk BK874⟩, ⟨bk BK881⟩, ⟨bq⟩⟩
            ·rw [if_neg c81] at H
             have c81b0 : decide (0 ≤ x11_3) = false := decide_eq_false c81
             clear c81
             (first | rw [c81b0] | (simp only [i64_w, i32_w]; rw [c81b0]) | skip)
             have H' := Aside0.mk H
             clear H
             go_wp2
             go_meet
             case rel => exact ⟨_, (false), rs, H', ⟨by have := HJ6.out; have := HJ59.out; have := HK3.out; first | omega | exact Nat.le_refl _⟩, ⟨rq HO_860001⟩, ⟨rq HO_861001⟩, ⟨bk BK859⟩, ⟨bk BK860⟩, ⟨bk BK867⟩, ⟨bk BK874⟩, ⟨bk BK881⟩, ⟨bq⟩⟩
           case rest =>
            clear HC80
            try clear c61
            try clear c61b0
            try clear c61b1
            try clear c62
            try clear c62b0
            try clear c62b1
            try clear c74
            try clear c81
            try clear c81b0
            try clear hcz79_0
            try clear hcz79_1
            try clear hcz79_2
            try clear hcz79_3
            try clear hcz79_4
            try clear hcz86_0
            try clear hcz86_1
            try clear hcz86_2
            try clear hcz86_3
            try clear hcz86_4
            try clear hfz79_0
            try clear hfz79_1
            try clear hfz79_2
            try clear hfz79_3
            try clear hfz79_4
            try clear hfz86_0
            try clear hfz86_1
            try clear hfz86_2
            try clear hfz86_3
            try clear hfz86_4
            obtain ⟨kq, x120_79, rfl, HA, HJ79, HO_860001, HO_861001, BK859, BK860, BK867, BK874, BK881, HB⟩ := hcut
            cases kq with
            | zero => exact absurd HA.out (by simp [laws_FnMeet.j3])
            | succ kj79 =>
             have H := HA.out
             clear HA
             simp only [laws_FnMeet.j3] at H
             by_cases c87 : x120_79 = true
             ·subst c87
              replace H := it H rfl
              obtain ⟨t888, A88, H⟩ := bo H
              by_cases c89 : t888 = true
              ·subst c89
               have H1 : (some false) = some true := by rw [if_pos rfl] at H; exact H
               clear H
               have H := H1
               exact absurd (Option.some.inj H) (by decide)
              ·replace c89 := Bool.eq_false_iff.mpr c89
               subst c89
               have H1 : (laws_FnMeet.l0 kj79 (wrap64 (x11_3 - 1)) t851 t852 t855 t856 t861 t862 t863 t864 t865) = some true := by rw [if_neg (show ¬ (false = true) by decide)] at H; exact H
               clear H
               have H := H1
               clear H1
               have H' := Aside0.mk H
               clear H
               have hnb100 := NB859_860.out
               have hnc100 := NB860_859.out
               have hnb101 := NB859_867.out
               have hnc101 := NB867_859.out
               have hnb102 := NB859_874.out
               have hnc102 := NB874_859.out
               have hnb103 := NB859_881.out
               have hnc103 := NB881_859.out
               obtain ⟨hcz104_0, hcz104_1, hfz104_0, hfz104_1⟩ := zc2 BK859
               have hnb105 := NB860_867.out
               have hnc105 := NB867_860.out
               have hnb106 := NB860_874.out
               have hnc106 := NB874_860.out
               have hnb107 := NB860_881.out
               have hnc107 := NB881_860.out
               obtain ⟨hcz108_0, hcz108_1, hfz108_0, hfz108_1⟩ := zc2 BK860
               go_wp2_with (first | ((with_reducible refine gate_callee (f := 43) rfl ?_); refine gl (some 126) Try.func43 #[.agg #[.string t851, .slice Ao13 t852.length co13], .agg #[.string t855, .slice Ao15 t856.length co15], .int .i64 x11_3] ?_; (with_reducible refine (laws_wNearAt.calls kj79 t851 _ _ t852 t855 _ _ t856 x11_3 false _ ?side1 ?side2 ?side3 ?side4 A88.out).mono ?_); (case side1 => exact sr HO_860001); (case side2 => exact (Kd.R_reads' HO_860001.out).2.1); (case side3 => exact sr HO_861001); (case side4 => exact (Kd.R_reads' HO_861001.out).2.1); rintro e w109 ⟨rfl, hb⟩; refine ⟨_, rfl, ?_⟩; have n0 := ra (Kd.R_below (rq HO_860001) hb); have n1 := ra (Kd.R_below (rq HO_861001) hb); have n2 := bb (bk BK859) hb; have n3 := bb (bk BK860) hb; have n4 := bb (bk BK867) hb; have n5 := bb (bk BK874) hb; have n6 := bb (bk BK881) hb; have n7 := bs hb; clear HO_860001 HO_861001 BK859 BK860 BK867 BK874 BK881 HB; have HO_860001 := n0; have HO_861001 := n1; have BK859 := n2; have BK860 := n3; have BK867 := n4; have BK874 := n5; have BK881 := n6; have HB := n7; clear n0 n1 n2 n3 n4 n5 n6 n7; (try clear hb); (try clear hb2); (try clear hk); (try clear hi)))
               go_roundg kj79
               case measure => have := HJ6.out; have := HJ59.out; have := HK3.out; have := HJ79.out; omega
               case rel => exact ⟨(wrap64 (x11_3 - 1)), rs, H', ⟨by have := HJ6.out; have := HJ59.out; have := HK3.out; have := HJ79.out; omega⟩, ⟨rq HO_860001⟩, ⟨rq HO_861001⟩, ⟨bk BK859⟩, ⟨bk BK860⟩, ⟨bk BK867⟩, ⟨bk BK874⟩, ⟨bk BK881⟩, ⟨bq⟩⟩
             ·replace c87 := Bool.eq_false_iff.mpr c87
              subst c87
              have H1 : (some true) = some true := rfl
              clear H
              have H := H1
              clear H1 H
              go_wp2
              go_ret
              exact ⟨re, bq⟩
     ·replace c59 := Bool.eq_false_iff.mpr c59
      subst c59
      have H1 : (if (t861.toList == ([] : List UInt8) && (t862.toList == ([] : List UInt8) && (t863 == 0 && (t864 == 0 && (t865 == 0))))) = true then ((spec_ProbeTubeOk.f kj6 t851 t852).bind fun t882 => (if t882 = true then ((spec_ProbeTubeOk.f kj6 t855 t856).bind fun t883 => (if t883 = true then ((laws_wEver.f kj6 t851 t852 t855 t856).bind fun t884 => (some (!t884))) else (some true))) else (some true))) else (some false)) = some true := by rw [if_neg (show ¬ (false = true) by decide)] at H; exact H
      clear H
      have H := H1
      clear H1
      by_cases c110 : (t861.toList == ([] : List UInt8) && (t862.toList == ([] : List UInt8) && (t863 == 0 && (t864 == 0 && (t865 == 0))))) = true
      ·rw [if_pos c110] at H
       have c110b0 : (t861.toList == ([] : List UInt8) && (t862.toList == ([] : List UInt8) && (t863 == 0 && (t864 == 0 && (t865 == 0))))) = true := c110
       have c110b9 : (t861.toList = ([] : List UInt8) ∧ t862.toList = ([] : List UInt8) ∧ t863 = 0 ∧ t864 = 0 ∧ t865 = 0) := by simpa using c110
       (try (have c110b1 : decide (t861.toList = ([] : List UInt8) && (t862.toList == ([] : List UInt8) && (t863 == 0 && (t864 == 0 && (t865 == 0))))) = true := by simpa using c110))
       (try (have c110b2 : (t861.toList == ([] : List UInt8) && (t862.toList == ([] : List UInt8) && (t863 == 0 && (t864 == 0 && (t865 == 0))))) = true := by simpa using c110))
       clear c110
       obtain ⟨t882, A111, H⟩ := bo H
       by_cases c112 : t882 = true
       ·subst c112
        replace H := it H rfl
        obtain ⟨t883, A113, H⟩ := bo H
        by_cases c114 : t883 = true
        ·subst c114
         replace H := it H rfl
         obtain ⟨t884, A115, H⟩ := bo H
         obtain rfl : t884 = false := by simpa using H
         have hnb116 := NB867_859.out
         have hnc116 := NB859_867.out
         have hnb117 := NB867_860.out
         have hnc117 := NB860_867.out
         have hnb118 := NB867_874.out
         have hnc118 := NB874_867.out
         have hnb119 := NB867_881.out
         have hnc119 := NB881_867.out
         obtain ⟨hcz120_0, hcz120_1, hcz120_2, hcz120_3, hcz120_4, hfz120_0, hfz120_1, hfz120_2, hfz120_3, hfz120_4⟩ := zc5 BK867
         have hnb121 := NB859_860.out
         have hnc121 := NB860_859.out
         have hnb122 := NB859_874.out
         have hnc122 := NB874_859.out
         have hnb123 := NB859_881.out
         have hnc123 := NB881_859.out
         obtain ⟨hcz124_0, hcz124_1, hfz124_0, hfz124_1⟩ := zc2 BK859
         go_wp2_with (first | (go_at_call 21; (with_reducible refine (spec_ProbeTubeOk.calls kj6 t851 _ _ t852 true _ ?side1 ?side2 A111.out).mono ?_); (case side1 => exact sr HO_860001); (case side2 => exact (Kd.R_reads' HO_860001.out).2.1); rintro e w125 ⟨rfl, hb⟩; have n0 := ra (Kd.R_below (rq HO_860001) hb); have n1 := ra (Kd.R_below (rq HO_861001) hb); have n2 := bb (bk BK859) hb; have n3 := bb (bk BK860) hb; have n4 := bb (bk BK867) hb; have n5 := bb (bk BK874) hb; have n6 := bb (bk BK881) hb; have n7 := bs hb; clear HO_860001 HO_861001 BK859 BK860 BK867 BK874 BK881 HB; have HO_860001 := n0; have HO_861001 := n1; have BK859 := n2; have BK860 := n3; have BK867 := n4; have BK874 := n5; have BK881 := n6; have HB := n7; clear n0 n1 n2 n3 n4 n5 n6 n7; (try clear hb); (try clear hb2); (try clear hk); (try clear hi); have hnb126 := NB860_874.out; have hnc126 := NB874_860.out; have hnb127 := NB860_881.out; have hnc127 := NB881_860.out; obtain ⟨hcz128_0, hcz128_1, hfz128_0, hfz128_1⟩ := zc2 BK860) | (go_at_call 21; (with_reducible refine (spec_ProbeTubeOk.calls kj6 t855 _ _ t856 true _ ?side1 ?side2 A113.out).mono ?_); (case side1 => exact sr HO_861001); (case side2 => exact (Kd.R_reads' HO_861001.out).2.1); rintro e w129 ⟨rfl, hb⟩; have n0 := ra (Kd.R_below (rq HO_860001) hb); have n1 := ra (Kd.R_below (rq HO_861001) hb); have n2 := bb (bk BK859) hb; have n3 := bb (bk BK860) hb; have n4 := bb (bk BK867) hb; have n5 := bb (bk BK874) hb; have n6 := bb (bk BK881) hb; have n7 := bs hb; clear HO_860001 HO_861001 BK859 BK860 BK867 BK874 BK881 HB; have HO_860001 := n0; have HO_861001 := n1; have BK859 := n2; have BK860 := n3; have BK867 := n4; have BK874 := n5; have BK881 := n6; have HB := n7; clear n0 n1 n2 n3 n4 n5 n6 n7; (try clear hb); (try clear hb2); (try clear hk); (try clear hi); obtain ⟨hcz130_0, hcz130_1, hfz130_0, hfz130_1⟩ := zc2 BK859; obtain ⟨hcz131_0, hcz131_1, hfz131_0, hfz131_1⟩ := zc2 BK860) | (go_at_call 45; (with_reducible refine (laws_wEver.calls kj6 t851 _ _ t852 t855 _ _ t856 false _ ?side1 ?side2 ?side3 ?side4 A115.out).mono ?_); (case side1 => exact sr HO_860001); (case side2 => exact (Kd.R_reads' HO_860001.out).2.1); (case side3 => exact sr HO_861001); (case side4 => exact (Kd.R_reads' HO_861001.out).2.1); rintro e w132 ⟨rfl, hb⟩; have n0 := ra (Kd.R_below (rq HO_860001) hb); have n1 := ra (Kd.R_below (rq HO_861001) hb); have n2 := bb (bk BK859) hb; have n3 := bb (bk BK860) hb; have n4 := bb (bk BK867) hb; have n5 := bb (bk BK874) hb; have n6 := bb (bk BK881) hb; have n7 := bs hb; clear HO_860001 HO_861001 BK859 BK860 BK867 BK874 BK881 HB; have HO_860001 := n0; have HO_861001 := n1; have BK859 := n2; have BK860 := n3; have BK867 := n4; have BK874 := n5; have BK881 := n6; have HB := n7; clear n0 n1 n2 n3 n4 n5 n6 n7; (try clear hb); (try clear hb2); (try clear hk); (try clear hi)))
         go_ret
         exact ⟨re, bq⟩
        ·replace c114 := Bool.eq_false_iff.mpr c114
         subst c114
         have H1 : (some true) = some true := rfl
         clear H
         have H := H1
         clear H1 H
         have hnb133 := NB867_859.out
         have hnc133 := NB859_867.out
         have hnb134 := NB867_860.out
         have hnc134 := NB860_867.out
         have hnb135 := NB867_874.out
         have hnc135 := NB874_867.out
         have hnb136 := NB867_881.out
         have hnc136 := NB881_867.out
         obtain ⟨hcz137_0, hcz137_1, hcz137_2, hcz137_3, hcz137_4, hfz137_0, hfz137_1, hfz137_2, hfz137_3, hfz137_4⟩ := zc5 BK867
         have hnb138 := NB859_860.out
         have hnc138 := NB860_859.out
         have hnb139 := NB859_874.out
         have hnc139 := NB874_859.out
         have hnb140 := NB859_881.out
         have hnc140 := NB881_859.out
         obtain ⟨hcz141_0, hcz141_1, hfz141_0, hfz141_1⟩ := zc2 BK859
         go_wp2_with (first | (go_at_call 21; (with_reducible refine (spec_ProbeTubeOk.calls kj6 t851 _ _ t852 true _ ?side1 ?side2 A111.out).mono ?_); (case side1 => exact sr HO_860001); (case side2 => exact (Kd.R_reads' HO_860001.out).2.1); rintro e w142 ⟨rfl, hb⟩; have n0 := ra (Kd.R_below (rq HO_860001) hb); have n1 := ra (Kd.R_below (rq HO_861001) hb); have n2 := bb (bk BK859) hb; have n3 := bb (bk BK860) hb; have n4 := bb (bk BK867) hb; have n5 := bb (bk BK874) hb; have n6 := bb (bk BK881) hb; have n7 := bs hb; clear HO_860001 HO_861001 BK859 BK860 BK867 BK874 BK881 HB; have HO_860001 := n0; have HO_861001 := n1; have BK859 := n2; have BK860 := n3; have BK867 := n4; have BK874 := n5; have BK881 := n6; have HB := n7; clear n0 n1 n2 n3 n4 n5 n6 n7; (try clear hb); (try clear hb2); (try clear hk); (try clear hi); have hnb143 := NB860_874.out; have hnc143 := NB874_860.out; have hnb144 := NB860_881.out; have hnc144 := NB881_860.out; obtain ⟨hcz145_0, hcz145_1, hfz145_0, hfz145_1⟩ := zc2 BK860) | (go_at_call 21; (with_reducible refine (spec_ProbeTubeOk.calls kj6 t855 _ _ t856 false _ ?side1 ?side2 A113.out).mono ?_); (case side1 => exact sr HO_861001); (case side2 => exact (Kd.R_reads' HO_861001.out).2.1); rintro e w146 ⟨rfl, hb⟩; have n0 := ra (Kd.R_below (rq HO_860001) hb); have n1 := ra (Kd.R_below (rq HO_861001) hb); have n2 := bb (bk BK859) hb; have n3 := bb (bk BK860) hb; have n4 := bb (bk BK867) hb; have n5 := bb (bk BK874) hb; have n6 := bb (bk BK881) hb; have n7 := bs hb; clear HO_860001 HO_861001 BK859 BK860 BK867 BK874 BK881 HB; have HO_860001 := n0; have HO_861001 := n1; have BK859 := n2; have BK860 := n3; have BK867 := n4; have BK874 := n5; have BK881 := n6; have HB := n7; clear n0 n1 n2 n3 n4 n5 n6 n7; (try clear hb); (try clear hb2); (try clear hk); (try clear hi)))
         go_ret
         exact ⟨re, bq⟩
       ·replace c112 := Bool.eq_false_iff.mpr c112
        subst c112
        have H1 : (some true) = some true := rfl
        clear H
        have H := H1
        clear H1 H
        have hnb147 := NB867_859.out
        have hnc147 := NB859_867.out
        have hnb148 := NB867_860.out
        have hnc148 := NB860_867.out
        have hnb149 := NB867_874.out
        have hnc149 := NB874_867.out
        have hnb150 := NB867_881.out
        have hnc150 := NB881_867.out
        obtain ⟨hcz151_0, hcz151_1, hcz151_2, hcz151_3, hcz151_4, hfz151_0, hfz151_1, hfz151_2, hfz151_3, hfz151_4⟩ := zc5 BK867
        have hnb152 := NB859_860.out
        have hnc152 := NB860_859.out
        have hnb153 := NB859_874.out
        have hnc153 := NB874_859.out
        have hnb154 := NB859_881.out
        have hnc154 := NB881_859.out
        obtain ⟨hcz155_0, hcz155_1, hfz155_0, hfz155_1⟩ := zc2 BK859
        go_wp2_with (first | (go_at_call 21; (with_reducible refine (spec_ProbeTubeOk.calls kj6 t851 _ _ t852 false _ ?side1 ?side2 A111.out).mono ?_); (case side1 => exact sr HO_860001); (case side2 => exact (Kd.R_reads' HO_860001.out).2.1); rintro e w156 ⟨rfl, hb⟩; have n0 := ra (Kd.R_below (rq HO_860001) hb); have n1 := ra (Kd.R_below (rq HO_861001) hb); have n2 := bb (bk BK859) hb; have n3 := bb (bk BK860) hb; have n4 := bb (bk BK867) hb; have n5 := bb (bk BK874) hb; have n6 := bb (bk BK881) hb; have n7 := bs hb; clear HO_860001 HO_861001 BK859 BK860 BK867 BK874 BK881 HB; have HO_860001 := n0; have HO_861001 := n1; have BK859 := n2; have BK860 := n3; have BK867 := n4; have BK874 := n5; have BK881 := n6; have HB := n7; clear n0 n1 n2 n3 n4 n5 n6 n7; (try clear hb); (try clear hb2); (try clear hk); (try clear hi)))
        go_ret
        exact ⟨re, bq⟩
      ·rw [if_neg c110] at H
       exact absurd (Option.some.inj H) (by decide)
end Go.Proofs.Ytfoapgcnjnogiaa.PA
