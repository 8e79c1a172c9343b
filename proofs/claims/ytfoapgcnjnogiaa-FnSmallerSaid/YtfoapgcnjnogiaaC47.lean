/- Contracts of the functions spec_DrawProbeSmaller. (Began as a print of the kit's tool.) -/
import Derived.Test.YtfoapgcnjnogiaaPAd
import Derived.Test.YtfoapgcnjnogiaaCx
import Derived.Test.YtfoapgcnjnogiaaCz
import Derived.Test.YtfoapgcnjnogiaaCy
import Derived.Test.YtfoapgcnjnogiaaGDrawA
import Derived.Test.YtfoapgcnjnogiaaGDrawB
import Derived.Test.YtfoapgcnjnogiaaGDrawA
import Derived.Test.YtfoapgcnjnogiaaGDrawA
import Derived.Test.YtfoapgcnjnogiaaGDrawA
namespace Go.Proofs.Ytfoapgcnjnogiaa.PA
open Go.RowKit Go.Proofs.YtfoapgcnjnogiaaW.PrintWords Go.Proofs.YtfoapgcnjnogiaaW.PrintLast Go.Proofs.YtfoapgcnjnogiaaW.PrintMore Go.Proofs.Ytfoapgcnjnogiaa.Z
attribute [local go_sem] max2_int min2_int max_two min_two max_three min_three max_four min_four
set_option linter.unusedVariables false
set_option linter.unusedSimpArgs false
def spec_DrawProbeSmaller.T9 : Bool × List (List Nat × List Nat) := (true, [([], []), ([0], [0]), ([], []), ([1, 2], [1, 2]), ([3], [3]), ([4], [4]), ([], []), ([6], [6]), ([], []), ([7, 8], [7, 8]), ([9], [9]), ([10], [10]), ([5, 11], [5, 11])])
def spec_DrawProbeSmaller.B9 : List Nat := [0, 1, 0, 7, 15, 31, 0, 64, 0, 448, 960, 1984, 4095]
theorem spec_DrawProbeSmaller.tab9 : rtab .any (opsOf Try.f47 9) = spec_DrawProbeSmaller.T9 := by kernel_rfl
theorem spec_DrawProbeSmaller.bits9 : waitsOk spec_DrawProbeSmaller.T9.2 spec_DrawProbeSmaller.B9 = true := by kernel_rfl
def spec_DrawProbeSmaller.T10 : Bool × List (List Nat × List Nat) := (true, [([], []), ([0], [0]), ([], []), ([], []), ([3], [3]), ([], []), ([4, 5], [4, 5]), ([6], [6]), ([7], [7]), ([8], [8]), ([1, 2, 0, 1, 2, 3, 4, 5, 6, 7, 8, 9], [1, 2]), ([10, 0, 1, 2, 3, 4, 5, 6, 7, 8, 9], [10]), ([11, 9, 0, 1, 2, 3, 4, 5, 6, 7, 8, 9], [9, 11])])
def spec_DrawProbeSmaller.B10 : List Nat := [0, 1, 0, 0, 8, 0, 56, 120, 248, 504, 1023, 2047, 4095]
theorem spec_DrawProbeSmaller.tab10 : rtab .any (opsOf Try.f47 10) = spec_DrawProbeSmaller.T10 := by kernel_rfl
theorem spec_DrawProbeSmaller.bits10 : waitsOk spec_DrawProbeSmaller.T10.2 spec_DrawProbeSmaller.B10 = true := by kernel_rfl
def spec_DrawProbeSmaller.T12 : Bool × List (List Nat × List Nat) := (true, [([], []), ([0], [0]), ([], []), ([1, 2], [1, 2]), ([3], [3]), ([4], [4]), ([], []), ([6], [6]), ([], []), ([7, 8], [7, 8]), ([9], [9]), ([10], [10]), ([5, 11], [5, 11])])
def spec_DrawProbeSmaller.B12 : List Nat := [0, 1, 0, 7, 15, 31, 0, 64, 0, 448, 960, 1984, 4095]
theorem spec_DrawProbeSmaller.tab12 : rtab .any (opsOf Try.f47 12) = spec_DrawProbeSmaller.T12 := by kernel_rfl
theorem spec_DrawProbeSmaller.bits12 : waitsOk spec_DrawProbeSmaller.T12.2 spec_DrawProbeSmaller.B12 = true := by kernel_rfl
def spec_DrawProbeSmaller.T13 : Bool × List (List Nat × List Nat) := (true, [([], []), ([0], [0]), ([], []), ([], []), ([3], [3]), ([], []), ([4, 5], [4, 5]), ([6], [6]), ([7], [7]), ([8], [8]), ([1, 2, 0, 1, 2, 3, 4, 5, 6, 7, 8, 9], [1, 2]), ([10, 0, 1, 2, 3, 4, 5, 6, 7, 8, 9], [10]), ([11, 9, 0, 1, 2, 3, 4, 5, 6, 7, 8, 9], [9, 11])])
def spec_DrawProbeSmaller.B13 : List Nat := [0, 1, 0, 0, 8, 0, 56, 120, 248, 504, 1023, 2047, 4095]
theorem spec_DrawProbeSmaller.tab13 : rtab .any (opsOf Try.f47 13) = spec_DrawProbeSmaller.T13 := by kernel_rfl
theorem spec_DrawProbeSmaller.bits13 : waitsOk spec_DrawProbeSmaller.T13.2 spec_DrawProbeSmaller.B13 = true := by kernel_rfl
def spec_DrawProbeSmaller.T19 : Bool × List (List Nat × List Nat) := (true, [([], []), ([0], [0]), ([], []), ([], []), ([3], [3]), ([], []), ([4, 5], [4, 5]), ([6], [6]), ([7], [7]), ([8], [8]), ([1, 2, 0, 1, 2, 3, 4, 5, 6, 7, 8, 9], [1, 2]), ([10, 0, 1, 2, 3, 4, 5, 6, 7, 8, 9], [10]), ([11, 9, 0, 1, 2, 3, 4, 5, 6, 7, 8, 9], [9, 11])])
def spec_DrawProbeSmaller.B19 : List Nat := [0, 1, 0, 0, 8, 0, 56, 120, 248, 504, 1023, 2047, 4095]
theorem spec_DrawProbeSmaller.tab19 : rtab .any (opsOf Try.f47 19) = spec_DrawProbeSmaller.T19 := by kernel_rfl
theorem spec_DrawProbeSmaller.bits19 : waitsOk spec_DrawProbeSmaller.T19.2 spec_DrawProbeSmaller.B19 = true := by kernel_rfl
def spec_DrawProbeSmaller.T21 : Bool × List (List Nat × List Nat) := (true, [([], []), ([], []), ([1], [1]), ([], []), ([2, 3], [2, 3]), ([0, 4], [0, 4]), ([], []), ([6], [6]), ([], []), ([8], [8]), ([7, 9], [7, 9]), ([5, 10, 5], [5, 10]), ([0, 1, 2, 3, 4, 5, 6, 7, 8, 9, 10, 11], []), ([12, 11, 11, 0, 1, 2, 3, 4, 5, 6, 7, 8, 9, 10, 11], [11, 12])])
def spec_DrawProbeSmaller.B21 : List Nat := [0, 0, 2, 0, 14, 31, 0, 64, 0, 256, 960, 2047, 4095, 8191]
theorem spec_DrawProbeSmaller.tab21 : rtab .any (opsOf Try.f47 21) = spec_DrawProbeSmaller.T21 := by kernel_rfl
theorem spec_DrawProbeSmaller.bits21 : waitsOk spec_DrawProbeSmaller.T21.2 spec_DrawProbeSmaller.B21 = true := by kernel_rfl
set_option maxHeartbeats 8000000 in
set_option maxRecDepth 100000 in
theorem spec_DrawProbeSmaller.calls (k : Nat) (A0 : Option Addr) (c0 : Nat) (l0 : List Int) (r1 : ByteArray) (r2 : List (S26)) (r3 : ByteArray) (r4 : List (S26)) (w : World) (hr0 : Kd.C (Kd.int .u8) w A0 l0.length l0) (hc0 : l0.length ≤ c0) (h : spec_DrawProbeSmaller.f k l0 = some (r1, r2, r3, r4)) :
  Calls Try.prog 47 #[.slice A0 l0.length c0] w fun e w' => ∃ v1_ v3_ : Value, e = .returned (.tuple #[.agg #[.string r1, v1_], .agg #[.string r3, v3_]]) ∧ Kd.R k26 26 w' w.heap.size (fun k_ => some k_ ≠ (v3_ : Value).ownBlock) v1_ r2 ∧ Kd.R k26 26 w' w.heap.size (fun k_ => some k_ ≠ (v1_ : Value).ownBlock) v3_ r4 ∧ Below w.heap.size w w' := by
 have hu39 := Try.underlying39
 have hu26 := Try.underlying26
 have HR0 := Aside0.mk hr0
 have HC0 := Aside0.mk hc0
 clear hr0 hc0
 have HB := ra (Below.refl w.heap.size w)
 have H : ((spec_l1Open.f l0).bind fun bt891 => ((spec_l2Any.f k bt891.1 bt891.2).bind fun bt894 => ((spec_l2Copy.f bt894.1 bt894.2.1).bind fun bt900 => (spec_DrawProbeSmaller.l0 k 0 bt891.1 bt894.2.2 bt894.1 bt894.2.1 bt900.1 bt900.2)))) = some (r1, r2, r3, r4) := h
 clear h
 obtain ⟨⟨t891, t892⟩, A2, H⟩ := bo H
 try dsimp only at H
 obtain ⟨⟨t894, t895, t898⟩, A3, H⟩ := bo H
 try dsimp only at H
 obtain ⟨⟨t900, t901⟩, A4, H⟩ := bo H
 try dsimp only at H
 have H' := Aside0.mk H
 clear H
 go_enter Try.func47, Try.ntmps47
 go_wp2_with (first | ((with_reducible refine gate_dst (N := 2) rfl ?_); refine be 2 #[.string (⟨#[]⟩ : ByteArray), .slice none 0 0] 39 ?_; intro gb889 hg w5 hbox hb; have _ := bs hb; have _ := ra (hbox); have _ := bz (w0 := w) hg; have _ := bz (w0 := w) hg; clear HB; rename_i HB BK889 GW889 GE889; clear hb hbox hg) | ((with_reducible refine gate_dst (N := 3) rfl ?_); refine be 3 #[.string (⟨#[]⟩ : ByteArray), .slice none 0 0] 39 ?_; intro gb890 hg w6 hbox hb; have _ := bb (bk BK889) hb; have _ := bs hb; have _ := ra (hbox); have _ := bz (w0 := w) hg; have _ := bz (w0 := w) hg; have _ := bn hg (bk BK889); have _ := bm hg (bk BK889); clear BK889 HB; rename_i BK889 HB BK890 GW890 GE890 NB889_890 NB890_889; clear hb hbox hg) | ((with_reducible refine gate_callee (f := 63) rfl ?_); refine gl (some 10) Try.func63 #[.slice A0 l0.length c0] ?_; (with_reducible refine (spec_l1Open.calls _ _ l0 t891 t892 w _ ?side1 ?side2 ?side3 A2.out).mono ?_); (case side1 => repeat (first | (with_reducible first | exact HB.out | apply below_alloc | apply pw_below_drewN | apply below_drew1 | refine below_set ?_ GE889.out | refine below_set ?_ GE890.out) | exact HB.out)); (case side2 => exact HR0.out); (case side3 => exact HC0.out); rintro e w7 ⟨g893, rfl, hi, hb, hb2⟩; refine ⟨_, rfl, ?_⟩; have _ := bb (bk BK889) hb2; have _ := bb (bk BK890) hb2; have _ := ra (hb); have _ := ra (hi); have _ := ra (IsS90.ne_blk hi (blk_below (g := gb889) (o := .cells #[.string (⟨#[]⟩ : ByteArray), .slice none 0 0] 39 (0, 0)) (bk BK889) hb2) (by decide)); have _ := ra (Ne.symm (IsS90.ne_blk hi (blk_below (g := gb889) (o := .cells #[.string (⟨#[]⟩ : ByteArray), .slice none 0 0] 39 (0, 0)) (bk BK889) hb2) (by decide))); have _ := ra (IsS90.ne_blk hi (blk_below (g := gb890) (o := .cells #[.string (⟨#[]⟩ : ByteArray), .slice none 0 0] 39 (0, 0)) (bk BK890) hb2) (by decide)); have _ := ra (Ne.symm (IsS90.ne_blk hi (blk_below (g := gb890) (o := .cells #[.string (⟨#[]⟩ : ByteArray), .slice none 0 0] 39 (0, 0)) (bk BK890) hb2) (by decide))); clear BK889 BK890 HB; rename_i BK889 BK890 HB HI893 NB893_889 NB889_893 NB893_890 NB890_893; (try clear hb); (try clear hb2); (try clear hk); (try clear hi)) | ((with_reducible refine gate_callee (f := 64) rfl ?_); refine gl (some 12) Try.func64 #[.pointer (some ⟨g893, 0, none⟩)] ?_; (with_reducible refine (spec_l2Any.calls k g893 t891 t892 t894 t895 t898 w _ ?side1 ?side2 A3.out).mono ?_); (case side1 => exact qi HI893); (case side2 => exact qb HI893 HB); rintro e w8 ⟨v896, rfl, ho0, hi, hb, hk⟩; refine ⟨_, rfl, ?_⟩; have _ := kv hk (bk BK889) NB889_893; have _ := kv hk (bk BK890) NB890_893; have _ := ra (Kd.R_lower ho0 (below_size (qb HI893 HB))); have _ := ra (hb); have _ := ra (hi); clear BK889 BK890 HB HI893; rename_i BK889 BK890 HO897 HB HI893; (try clear hb); (try clear hb2); (try clear hk); (try clear hi); (try clear ho0)) | ((with_reducible refine gate_dst (N := 5) rfl ?_); refine be 5 #[.string (⟨#[]⟩ : ByteArray), .slice none 0 0] 39 ?_; intro gb899 hg w9 hbox hb; have _ := ra (Kd.R_below (rq HO897) hb); have _ := bb (bk BK889) hb; have _ := bb (bk BK890) hb; have _ := ra (IsS90.below (qi HI893) hb); have _ := ra (below_step (qb HI893 HB) hb); have _ := ra (hbox); have _ := ra ((by rw [hg]; exact (below_size (qb HI893 HB)) : w.heap.size ≤ gb899)); have _ := ra ((by rw [hg]; exact (below_size (qb HI893 HB)) : w.heap.size ≤ gb899)); have _ := bn hg (bk BK889); have _ := bm hg (bk BK889); have _ := bn hg (bk BK890); have _ := bm hg (bk BK890); have _ := ra ((by rw [hg]; exact Nat.ne_of_lt (IsS90.lt (show IsS90 w _ g893 t891 t898 from qi HI893)) : g893 ≠ gb899)); have _ := ra ((by rw [hg]; exact Nat.ne_of_gt (IsS90.lt (show IsS90 w _ g893 t891 t898 from qi HI893)) : gb899 ≠ g893)); clear HO897 BK889 BK890 HI893 HB; rename_i HO897 BK889 BK890 HI893 HB BK899 GW899 GE899 NB889_899 NB899_889 NB890_899 NB899_890 NB893_899 NB899_893; clear hb hbox hg; have hnb10 := NB899_889.out; have hnc10 := NB889_899.out; have hnb11 := NB899_890.out; have hnc11 := NB890_899.out; have hnb12 := NB899_893.out; have hnc12 := NB893_899.out; obtain ⟨hcz13_0, hcz13_1, hfz13_0, hfz13_1⟩ := zc2 BK899; obtain ⟨Ao14, co14, eo14⟩ := Kd.R_slice HO897.out; subst eo14) | ((with_reducible refine gate_callee (f := 67) rfl ?_); refine gl (some 14) Try.func67 #[.agg #[.string t894, .slice Ao14 t895.length co14]] ?_; (with_reducible refine (spec_l2Copy.calls t894 _ _ t895 t900 t901 _ ?side1 ?side2 A4.out).mono ?_); (case side1 => refine (Kd.R_reads' (e := 26) (base := w.heap.size) (ok := fun k_ => True) (n := t895.length) (c := co14) ?_).2.2; exact (Kd.R_mono (rf (Kd.R_types HO897.out BK899.out (by decide))) (fun _ h_ => h_.1))); (case side2 => exact (Kd.R_reads' HO897.out).2.1); rintro e w15 ⟨v902, rfl, ho0, hb⟩; refine ⟨_, rfl, ?_⟩; have _ := ra (Kd.R_elder' (Kd.R_mono (rf (Kd.R_types HO897.out BK899.out (by decide))) (fun _ h_ => h_.1)) (Kd.R_base ho0) hb); have _ := ra (Kd.R_lower (Kd.R_new' ho0 (Kd.R_lt (Kd.R_mono (rf (Kd.R_types HO897.out BK899.out (by decide))) (fun _ h_ => h_.1)))) (below_size (qb HI893 HB))); have _ := bb (bk BK889) hb; have _ := bb (bk BK890) hb; have _ := ra (IsS90.below (show IsS90 w ((w9.setCell ⟨gb899, 0, none⟩ (.string t894)).setCell ⟨gb899, 1, none⟩ (.slice Ao14 t895.length co14)) g893 t891 t898 from qi HI893) hb); have _ := bb (o := .cells #[.string t894, .slice Ao14 t895.length co14] 39 (0, 0)) (bp BK899) hb; have _ := ra (below_step (qb HI893 HB) hb); clear HO897 BK889 BK890 HI893 BK899 HB; rename_i HO897 HO903 BK889 BK890 HI893 BK899 HB; (try clear hb); (try clear hb2); (try clear hk); (try clear hi); (try clear ho0)) | ((with_reducible refine gate_dst (N := 6) rfl ?_); refine be 6 #[.string (⟨#[]⟩ : ByteArray), .slice none 0 0] 39 ?_; intro gb904 hg w16 hbox hb; have _ := ra (Kd.R_below (rq HO897) hb); have _ := ra (Kd.R_below (rq HO903) hb); have _ := bb (bk BK889) hb; have _ := bb (bk BK890) hb; have _ := ra (IsS90.below (qi HI893) hb); have _ := bb (bk BK899) hb; have _ := ra (below_step (qb HI893 HB) hb); have _ := ra (hbox); have _ := ra ((by rw [hg]; exact (below_size (qb HI893 HB)) : w.heap.size ≤ gb904)); have _ := ra ((by rw [hg]; exact (below_size (qb HI893 HB)) : w.heap.size ≤ gb904)); have _ := bn hg (bk BK889); have _ := bm hg (bk BK889); have _ := bn hg (bk BK890); have _ := bm hg (bk BK890); have _ := bn hg (bk BK899); have _ := bm hg (bk BK899); have _ := ra ((by rw [hg]; exact Nat.ne_of_lt (IsS90.lt (show IsS90 w _ g893 t891 t898 from qi HI893)) : g893 ≠ gb904)); have _ := ra ((by rw [hg]; exact Nat.ne_of_gt (IsS90.lt (show IsS90 w _ g893 t891 t898 from qi HI893)) : gb904 ≠ g893)); clear HO897 HO903 BK889 BK890 HI893 BK899 HB; rename_i HO897 HO903 BK889 BK890 HI893 BK899 HB BK904 GW904 GE904 NB889_904 NB904_889 NB890_904 NB904_890 NB899_904 NB904_899 NB893_904 NB904_893; clear hb hbox hg; have hnb17 := NB904_889.out; have hnc17 := NB889_904.out; have hnb18 := NB904_890.out; have hnc18 := NB890_904.out; have hnb19 := NB904_899.out; have hnc19 := NB899_904.out; have hnb20 := NB904_893.out; have hnc20 := NB893_904.out; obtain ⟨hcz21_0, hcz21_1, hfz21_0, hfz21_1⟩ := zc2 BK904; obtain ⟨Ao22, co22, eo22⟩ := Kd.R_slice HO903.out; subst eo22))
 go_loopg [7] k (fun kq v7 w' => ∃ (x7_1 : Int) (x894001_1 : Int) (x900001_1 : List (S26)) (x905001_1 : List (S26)) (u900001 : Value) (u905001 : Value), v7 = .int .i64 x7_1 ∧ Aside0 (spec_DrawProbeSmaller.l0 kq x7_1 t891 x894001_1 t894 x900001_1 t900 x905001_1 = some (r1, r2, r3, r4)) ∧ Aside0 (kq ≤ k) ∧ Aside0 (Kd.R k26 26 w' w.heap.size (fun k_ => some k_ ≠ (u905001 : Value).ownBlock) u900001 x900001_1) ∧ Aside0 (Kd.R k26 26 w' w.heap.size (fun k_ => some k_ ≠ (u900001 : Value).ownBlock) u905001 x905001_1) ∧ Aside0 (w'.heap[gb889]? = some (.cells #[.string (⟨#[]⟩ : ByteArray), (.slice none 0 0)] 39 (0, 0))) ∧ Aside0 (w'.heap[gb890]? = some (.cells #[.string (⟨#[]⟩ : ByteArray), (.slice none 0 0)] 39 (0, 0))) ∧ Aside0 (w'.heap[gb899]? = some (.cells #[.string t894, u900001] 39 (0, 0))) ∧ Aside0 (w'.heap[gb904]? = some (.cells #[.string t900, u905001] 39 (0, 0))) ∧ Aside0 (IsS90 w w' g893 t891 x894001_1) ∧ Aside0 (Below w.heap.size w w'))
 case atStart => exact ⟨(0), (t898), (t895), (t901), (.slice Ao14 t895.length co14), (.slice Ao22 t901.length co22), rs, H', ⟨Nat.le_refl _⟩, ⟨by (with_reducible repeat (first | apply Kd.R_alloc | apply Kd.R_drewN | apply Kd.R_drew)); exact Kd.R_mono (rf (Kd.R_types HO897.out BK904.out (by decide))) (fun _ hk => hk.1.2)⟩, ⟨by (with_reducible repeat (first | apply Kd.R_alloc | apply Kd.R_drewN | apply Kd.R_drew)); exact Kd.R_mono (rf (Kd.R_types HO903.out BK904.out (by decide))) (fun _ hk => hk.1.2)⟩, ⟨bk BK889⟩, ⟨bk BK890⟩, ⟨bk BK899⟩, ⟨bp BK904⟩, ⟨by exact qi HI893⟩, ⟨by exact qb HI893 HB⟩⟩
 case round =>
  clear H'
  try clear c1
  try clear hcz13_0
  try clear hcz13_1
  try clear hcz21_0
  try clear hcz21_1
  try clear hfz13_0
  try clear hfz13_1
  try clear hfz21_0
  try clear hfz21_1
  obtain ⟨x7_1, x894001_1, x900001_1, x905001_1, u900001, u905001, rfl, HA, HK1, HO_900001, HO_905001, BK889, BK890, BK899, BK904, HI893, HB⟩ := hrel
  cases gk with
  | zero => exact absurd HA.out (by simp [spec_DrawProbeSmaller.l0])
  | succ k1 =>
   have H := HA.out
   clear HA
   simp only [spec_DrawProbeSmaller.l0] at H
   by_cases c23 : x7_1 < (x905001_1.length : Int)
   ·rw [if_pos c23] at H
    have c23b0 : decide (x7_1 < (x905001_1.length : Int)) = true := decide_eq_true c23
    clear c23
    obtain ⟨⟨t905, t906⟩, A24, H⟩ := bo H
    try dsimp only at H
    by_cases c25 : t905 = 0
    ·rw [if_pos c25] at H
     have c25b0 : (t905 == 0) = true := beq_iff_eq.mpr c25
     have c25b1 : (t905 != 0) = false := bne_eq_false_iff_eq.mpr c25
     clear c25
     by_cases c26 : 0 ≤ x7_1
     ·rw [if_pos c26] at H
      have c26b0 : decide (0 ≤ x7_1) = true := decide_eq_true c26
      clear c26
      by_cases c27 : ((rd_T26 x905001_1 x7_1).f4) < ((rd_T26 x905001_1 x7_1).f5)
      ·rw [if_pos c27] at H
       have c27b0 : decide (((rd_T26 x905001_1 x7_1).f4) < ((rd_T26 x905001_1 x7_1).f5)) = true := decide_eq_true c27
       clear c27
       obtain ⟨y910, hy_⟩ : ∃ y_ : List (S26), y_ = (x905001_1.set (x7_1 : Int).toNat (⟨(rd_T26 x905001_1 x7_1).f0, (rd_T26 x905001_1 x7_1).f1, (rd_T26 x905001_1 x7_1).f2, (rd_T26 x905001_1 x7_1).f3, wrap64 (((rd_T26 x905001_1 x7_1).f4) + 1), (rd_T26 x905001_1 x7_1).f5⟩ : S26)) := ⟨_, rfl⟩
       replace H : (spec_DrawProbeSmaller.l0 k1 (wrap64 (x7_1 + 1)) t891 t906 t894 x900001_1 t900 y910) = some (r1, r2, r3, r4) := yh
       have Ny910 := ra hy_
       clear hy_
       have H' := Aside0.mk H
       clear H
       have hnb29 := NB904_889.out
       have hnc29 := NB889_904.out
       have hnb30 := NB904_890.out
       have hnc30 := NB890_904.out
       have hnb31 := NB904_899.out
       have hnc31 := NB899_904.out
       have hnb32 := NB904_893.out
       have hnc32 := NB893_904.out
       obtain ⟨hcz33_0, hcz33_1, hfz33_0, hfz33_1⟩ := zc2 BK904
       obtain ⟨Ao34, co34, eo34⟩ := Kd.R_slice HO_905001.out
       subst eo34
       try go_wp2_with (first | ((with_reducible refine gate_callee (f := 65) rfl ?_); refine gl (some 23) Try.func65 #[.pointer (some ⟨g893, 0, none⟩), .int .i64 8] ?_; (with_reducible refine (spec_l1Rd_pick.calls k1 g893 t891 x894001_1 8 t905 t906 w _ ?side1 ?side2 A24.out).mono ?_); (case side1 => exact qi HI893); (case side2 => exact qb HI893 HB); rintro e w35 ⟨rfl, hi, hb, hk⟩; refine ⟨_, rfl, ?_⟩; have _ := ra (Kd.R_mono (Kd.R_keep (IsS90.apart (show IsS90 w _ g893 t891 x894001_1 from qi HI893) (rq HO_900001) (by decide)) hk (fun _ h => h.2)) (fun _ h => h.1)); have _ := ra (Kd.R_mono (Kd.R_keep (IsS90.apart (show IsS90 w _ g893 t891 x894001_1 from qi HI893) (rq HO_905001) (by decide)) hk (fun _ h => h.2)) (fun _ h => h.1)); have _ := kv hk (bk BK889) NB889_893; have _ := kv hk (bk BK890) NB890_893; have _ := kv hk (bk BK899) NB899_893; have _ := kv hk (bk BK904) NB904_893; have _ := ra (hb); have _ := ra (hi); clear HO_900001 HO_905001 BK889 BK890 BK899 BK904 HB HI893; rename_i HO_900001 HO_905001 BK889 BK890 BK899 BK904 HB HI893; (try clear hb); (try clear hb2); (try clear hk); (try clear hi)))
       have _ := ra (Kd.R_drew HO_900001.out)
       have _ := ra (Kd.R_drew HO_905001.out)
       have _ := ra (blk_drew BK889.out)
       have _ := ra (blk_drew BK890.out)
       have _ := ra (blk_drew BK899.out)
       have _ := ra (blk_drew BK904.out)
       have _ := ra (IsS90.drew HI893.out)
       have _ := ra (below_drew1 HB.out)
       clear HO_900001 HO_905001 BK889 BK890 BK899 BK904 HI893 HB
       rename_i HO_900001 HO_905001 BK889 BK890 BK899 BK904 HI893 HB
       have p907 : 0 ≤ (x7_1 : Int) := od
       have q907 : x7_1 < (x905001_1.length : Int) := od
       obtain ⟨ad907, e907, hx907_0, hx907_1, hx907_2, hx907_3, hx907_4, hx907_5⟩ := at_T26 (Kd.R_reads' HO_905001.out).2.2 x7_1 p907 q907
       cases e907
       replace p907 := eq_true p907
       replace q907 := eq_true q907
       have p908 : 0 ≤ (x7_1 : Int) := od
       have q908 : x7_1 < (x905001_1.length : Int) := od
       obtain ⟨ad908, e908, hx908_0, hx908_1, hx908_2, hx908_3, hx908_4, hx908_5⟩ := at_T26 (Kd.R_reads' HO_905001.out).2.2 x7_1 p908 q908
       obtain rfl : ad907 = ad908 := (by injection e908)
       replace p908 := eq_true p908
       replace q908 := eq_true q908
       refine start_ (n := 13) (S := fun w' => w'.cell? ⟨gb904, 0, none⟩ = some (.string t900) ∧ w'.cell? ⟨gb904, 1, none⟩ = some (.slice (some ad907) x905001_1.length co34) ∧ w'.cell? (ad907.add ((x7_1).toNat * 6)) = some (.int .i64 ((rd_T26 x905001_1 x7_1).f0)) ∧ w'.cell? ⟨(ad907.add ((x7_1).toNat * 6)).block, (ad907.add ((x7_1).toNat * 6)).off + 1, none⟩ = some (.int .i64 ((rd_T26 x905001_1 x7_1).f1)) ∧ w'.cell? ⟨(ad907.add ((x7_1).toNat * 6)).block, (ad907.add ((x7_1).toNat * 6)).off + 2, none⟩ = some (.int .i64 ((rd_T26 x905001_1 x7_1).f2)) ∧ w'.cell? ⟨(ad907.add ((x7_1).toNat * 6)).block, (ad907.add ((x7_1).toNat * 6)).off + 3, none⟩ = some (.int .i64 ((rd_T26 x905001_1 x7_1).f3)) ∧ w'.cell? ⟨(ad907.add ((x7_1).toNat * 6)).block, (ad907.add ((x7_1).toNat * 6)).off + 4, none⟩ = some (.int .i64 ((rd_T26 x905001_1 x7_1).f4)) ∧ w'.cell? ⟨(ad907.add ((x7_1).toNat * 6)).block, (ad907.add ((x7_1).toNat * 6)).off + 5, none⟩ = some (.int .i64 ((rd_T26 x905001_1 x7_1).f5)) ∧ w'.cell? (ad907.add ((x7_1).toNat * 6)) = some (.int .i64 ((rd_T26 x905001_1 x7_1).f0)) ∧ w'.cell? ⟨(ad907.add ((x7_1).toNat * 6)).block, (ad907.add ((x7_1).toNat * 6)).off + 1, none⟩ = some (.int .i64 ((rd_T26 x905001_1 x7_1).f1)) ∧ w'.cell? ⟨(ad907.add ((x7_1).toNat * 6)).block, (ad907.add ((x7_1).toNat * 6)).off + 2, none⟩ = some (.int .i64 ((rd_T26 x905001_1 x7_1).f2)) ∧ w'.cell? ⟨(ad907.add ((x7_1).toNat * 6)).block, (ad907.add ((x7_1).toNat * 6)).off + 3, none⟩ = some (.int .i64 ((rd_T26 x905001_1 x7_1).f3)) ∧ w'.cell? ⟨(ad907.add ((x7_1).toNat * 6)).block, (ad907.add ((x7_1).toNat * 6)).off + 4, none⟩ = some (.int .i64 ((rd_T26 x905001_1 x7_1).f4)) ∧ w'.cell? ⟨(ad907.add ((x7_1).toNat * 6)).block, (ad907.add ((x7_1).toNat * 6)).off + 5, none⟩ = some (.int .i64 ((rd_T26 x905001_1 x7_1).f5))) (ds := []) (bl 13 0) (by kernel_rfl) rfl rfl ⟨(blk_cell BK904.out 0).trans rfl, (blk_cell BK904.out 1).trans rfl, hx907_0, hx907_1, hx907_2, hx907_3, hx907_4, hx907_5, hx908_0, hx908_1, hx908_2, hx908_3, hx908_4, hx908_5⟩ (fun hHeld => ?_); refine with_tabW spec_DrawProbeSmaller.tab9 spec_DrawProbeSmaller.bits9 (fun HT_ HW_ => ?_)
       generalize w35.drew = w36 at HO_900001 HO_905001 BK889 BK890 BK899 BK904 HI893 HB hx907_0 hx907_1 hx907_2 hx907_3 hx907_4 hx907_5 hx908_0 hx908_1 hx908_2 hx908_3 hx908_4 hx908_5 hHeld ⊢
       refine pu 0 26 (bl 13 1) ?_
       refine pu 2 28 (bl 13 5) ?_
       refine pu 6 32 (bl 13 69) ?_
       refine pu 8 34 (bl 13 325) ?_
       refine tk 1 27 (bl 13 327) ?_ hHeld
       refine pu 3 29 (bl 13 335) ?_
       refine pu 4 30 (bl 13 351) ?_
       refine tk 5 31 (bl 13 383) ?_ hHeld
       refine tk 7 33 (bl 13 511) ?_ hHeld
       refine pu 9 35 (bl 13 1023) ?_
       refine pu 10 36 (bl 13 2047) ?_
       refine tk 11 37 (bl 13 4095) ?_ hHeld
       refine pu 12 38 (bl 13 8191) ?_
       refine done_ (done_of HT_.out (by kernel_rfl)) ?_
       try go_wp2
       have _ := ra (Kd.R_drew HO_900001.out)
       have _ := ra (Kd.R_drew HO_905001.out)
       have _ := ra (blk_drew BK889.out)
       have _ := ra (blk_drew BK890.out)
       have _ := ra (blk_drew BK899.out)
       have _ := ra (blk_drew BK904.out)
       have _ := ra (IsS90.drew HI893.out)
       have _ := ra (below_drew1 HB.out)
       clear HO_900001 HO_905001 BK889 BK890 BK899 BK904 HI893 HB
       rename_i HO_900001 HO_905001 BK889 BK890 BK899 BK904 HI893 HB
       have p909 : 0 ≤ (x7_1 : Int) := od
       have q909 : x7_1 < (x905001_1.length : Int) := od
       obtain ⟨ad909, e909, hx909_0, hx909_1, hx909_2, hx909_3, hx909_4, hx909_5⟩ := at_T26 (Kd.R_reads' HO_905001.out).2.2 x7_1 p909 q909
       obtain rfl : ad907 = ad909 := (by injection e909)
       replace p909 := eq_true p909
       replace q909 := eq_true q909
       have p28 : 0 ≤ (x7_1 : Int) := od
       have q28 : (x7_1 : Int) < ((x905001_1.length : Int) : Int) := od
       obtain ⟨go28, co28, eo28, gb28, gl28, cl28, HG28⟩ := Kd.R_form HO_905001.out (by omega)
       (first | cases eo28 | (injection eo28 with ea_ en_ ec_; (first | subst ea_ | (injection ea_ with ea_; subst ea_)); subst ec_; clear en_))
       have GB28 := Aside0.mk gb28
       have GG28 := Aside0.mk HG28
       clear gb28 gl28 HG28
       (first | simp only [add_plain] at hx907_0 | skip)
       (first | simp only [add_plain] at hx907_1 | skip)
       (first | simp only [add_plain] at hx907_2 | skip)
       (first | simp only [add_plain] at hx907_3 | skip)
       (first | simp only [add_plain] at hx907_4 | skip)
       (first | simp only [add_plain] at hx907_5 | skip)
       (first | simp only [add_plain] at hx908_0 | skip)
       (first | simp only [add_plain] at hx908_1 | skip)
       (first | simp only [add_plain] at hx908_2 | skip)
       (first | simp only [add_plain] at hx908_3 | skip)
       (first | simp only [add_plain] at hx908_4 | skip)
       (first | simp only [add_plain] at hx908_5 | skip)
       (first | simp only [add_plain] at hx909_0 | skip)
       (first | simp only [add_plain] at hx909_1 | skip)
       (first | simp only [add_plain] at hx909_2 | skip)
       (first | simp only [add_plain] at hx909_3 | skip)
       (first | simp only [add_plain] at hx909_4 | skip)
       (first | simp only [add_plain] at hx909_5 | skip)
       obtain ⟨ce28, hcl28, hM28, hcc28, hfr28⟩ := Kd.R_elem HO_905001.out z26 (x7_1 : Int) p28 q28
       obtain rfl := k26_openM hM28
       have hx28_0 : World.cell? _ ⟨go28, (x7_1 : Int).toNat * 6, none⟩ = some (.int .i64 ((rd_T26 x905001_1 x7_1).f0)) := hcc28 0 _ rfl
       have hx28_1 : World.cell? _ ⟨go28, (x7_1 : Int).toNat * 6 + 1, none⟩ = some (.int .i64 ((rd_T26 x905001_1 x7_1).f1)) := hcc28 1 _ rfl
       have hx28_2 : World.cell? _ ⟨go28, (x7_1 : Int).toNat * 6 + 2, none⟩ = some (.int .i64 ((rd_T26 x905001_1 x7_1).f2)) := hcc28 2 _ rfl
       have hx28_3 : World.cell? _ ⟨go28, (x7_1 : Int).toNat * 6 + 3, none⟩ = some (.int .i64 ((rd_T26 x905001_1 x7_1).f3)) := hcc28 3 _ rfl
       have hx28_4 : World.cell? _ ⟨go28, (x7_1 : Int).toNat * 6 + 4, none⟩ = some (.int .i64 ((rd_T26 x905001_1 x7_1).f4)) := hcc28 4 _ rfl
       have hx28_5 : World.cell? _ ⟨go28, (x7_1 : Int).toNat * 6 + 5, none⟩ = some (.int .i64 ((rd_T26 x905001_1 x7_1).f5)) := hcc28 5 _ rfl
       have hf28_0 : World.frozen? _ ⟨go28, (x7_1 : Int).toNat * 6, none⟩ = false := hfr28 0
       have hf28_1 : World.frozen? _ ⟨go28, (x7_1 : Int).toNat * 6 + 1, none⟩ = false := hfr28 1
       have hf28_2 : World.frozen? _ ⟨go28, (x7_1 : Int).toNat * 6 + 2, none⟩ = false := hfr28 2
       have hf28_3 : World.frozen? _ ⟨go28, (x7_1 : Int).toNat * 6 + 3, none⟩ = false := hfr28 3
       have hf28_4 : World.frozen? _ ⟨go28, (x7_1 : Int).toNat * 6 + 4, none⟩ = false := hfr28 4
       have hf28_5 : World.frozen? _ ⟨go28, (x7_1 : Int).toNat * 6 + 5, none⟩ = false := hfr28 5
       clear hcl28 hcc28 hfr28 hM28
       replace p28 := eq_true p28
       replace q28 := eq_true q28
       have HN893_go28 := ra (show g893 ≠ go28 from by have h_ := IsS90.own_ne HI893.out HO_905001.out (by decide); intro e_; exact h_ (by rw [e_]; rfl))
       obtain ⟨ce38, hcl38, hM38, hcc38, hfr38⟩ := Kd.R_elem HO_905001.out z26 (x7_1 : Int) (od) (by have h_ : (x7_1 : Int) < ((x905001_1.length : Int) : Int) := od; first | exact h_ | (have e_ := (Kd.R_reads' HO_905001.out).1; omega) | simpa using h_)
       obtain rfl := k26_openM hM38
       have HP38 := (Kd.R_seg HO_905001.out (x7_1 : Int) (od) (by have h_ : (x7_1 : Int) < ((x905001_1.length : Int) : Int) := od; first | exact h_ | (have e_ := (Kd.R_reads' HO_905001.out).1; omega) | simpa using h_) (seg := [.int .i64 (wrap64 (((rd_T26 x905001_1 x7_1).f4) + 1))]) (j := 4) hcl38 hcc38 (show 5 ≤ 6 from by decide) (x' := (⟨(rd_T26 x905001_1 x7_1).f0, (rd_T26 x905001_1 x7_1).f1, (rd_T26 x905001_1 x7_1).f2, (rd_T26 x905001_1 x7_1).f3, wrap64 (((rd_T26 x905001_1 x7_1).f4) + 1), (rd_T26 x905001_1 x7_1).f5⟩ : S26)) (k26_mkM _ _ _ (⟨(rd_T26 x905001_1 x7_1).f0, (rd_T26 x905001_1 x7_1).f1, (rd_T26 x905001_1 x7_1).f2, (rd_T26 x905001_1 x7_1).f3, wrap64 (((rd_T26 x905001_1 x7_1).f4) + 1), (rd_T26 x905001_1 x7_1).f5⟩ : S26) ) (fun _ hk => hk)).1
       rw [← Ny910.out] at HP38
       have HQ38 := Aside0.mk HP38
       clear hcl38 hcc38 hfr38 hM38 HP38
       refine start_ (n := 13) (S := fun w' => w'.cell? ⟨gb904, 0, none⟩ = some (.string t900) ∧ w'.cell? ⟨gb904, 1, none⟩ = some (.slice (some ⟨go28, 0, none⟩) x905001_1.length co34) ∧ w'.cell? ⟨go28, ((x7_1).toNat * 6), none⟩ = some (.int .i64 ((rd_T26 x905001_1 x7_1).f0)) ∧ w'.cell? ⟨go28, ((x7_1).toNat * 6) + 1, none⟩ = some (.int .i64 ((rd_T26 x905001_1 x7_1).f1)) ∧ w'.cell? ⟨go28, ((x7_1).toNat * 6) + 2, none⟩ = some (.int .i64 ((rd_T26 x905001_1 x7_1).f2)) ∧ w'.cell? ⟨go28, ((x7_1).toNat * 6) + 3, none⟩ = some (.int .i64 ((rd_T26 x905001_1 x7_1).f3)) ∧ w'.cell? ⟨go28, ((x7_1).toNat * 6) + 4, none⟩ = some (.int .i64 ((rd_T26 x905001_1 x7_1).f4)) ∧ w'.cell? ⟨go28, ((x7_1).toNat * 6) + 5, none⟩ = some (.int .i64 ((rd_T26 x905001_1 x7_1).f5))) (ds := [12]) #[false, false, false, false, false, false, false, false, false, false, false, false, false] (by kernel_rfl) rfl rfl ⟨(blk_cell BK904.out 0).trans rfl, (blk_cell BK904.out 1).trans rfl, hx909_0, hx909_1, hx909_2, hx909_3, hx909_4, hx909_5⟩ (fun hHeld => ?_); refine with_tabW spec_DrawProbeSmaller.tab10 spec_DrawProbeSmaller.bits10 (fun HT_ HW_ => ?_)
       generalize w36.drew = w37 at HO_900001 HO_905001 BK889 BK890 BK899 BK904 HI893 HB GG28 HQ38 hf28_0 hf28_1 hf28_2 hf28_3 hf28_4 hf28_5 hx28_0 hx28_1 hx28_2 hx28_3 hx28_4 hx28_5 hx907_0 hx907_1 hx907_2 hx907_3 hx907_4 hx907_5 hx908_0 hx908_1 hx908_2 hx908_3 hx908_4 hx908_5 hx909_0 hx909_1 hx909_2 hx909_3 hx909_4 hx909_5 hHeld ⊢
       refine pu 0 39 (bl 13 1) ?_
       refine pu 2 41 (bl 13 5) ?_
       refine pu 3 42 (bl 13 13) ?_
       refine pu 5 44 (bl 13 45) ?_
       refine tk 1 40 (bl 13 47) ?_ hHeld
       refine tk 4 43 (bl 13 63) ?_ hHeld
       refine pu 6 45 (bl 13 127) ?_
       refine pu 7 46 (bl 13 255) ?_
       refine tk 8 47 (bl 13 511) ?_ hHeld
       refine pu 9 48 (bl 13 1023) ?_
       refine pu 10 49 (bl 13 2047) ?_
       refine pu 11 50 (bl 13 4095) ?_
       refine last_ (i := 12) (N := none) #[true, true, true, true, true, true, true, true, true, true, true, true, true] rfl rfl (one_of HT_.out (by kernel_rfl)) (by decide) (fun K hK => ?_)
       refine skip_ (w1 := ?_) (by rfl) rfl ?_ ?_
       rotate_left
       ·go_simp
        rfl
       refine hK.out _ _ ?_
       clear hK K
       refine done_ (done_of HT_.out (by kernel_rfl)) ?_
       try go_wp2
       go_roundg k1
       case measure => have := HK1.out; omega
       case rel => exact ⟨(wrap64 (x7_1 + 1)), (t906), (x900001_1), (y910), (u900001), (.slice (some ⟨go28, 0, none⟩) x905001_1.length co34), rs, H', ⟨by have := HK1.out; omega⟩, ⟨by (with_reducible repeat (first | apply Kd.R_alloc | apply Kd.R_drewN | apply Kd.R_drew)); exact Kd.R_mono (rf (Kd.R_mono HO_900001.out (fun k_ hk => (⟨hk, fun e_ => hk (by rw [e_]; rfl)⟩ : _ ∧ k_ ≠ go28)))) (fun _ hk => hk.1)⟩, ⟨by (with_reducible repeat (first | apply Kd.R_alloc | apply Kd.R_drewN | apply Kd.R_drew)); exact HQ38.out⟩, ⟨by (with_reducible repeat (first | refine blk_drewN ?_ _ | refine blk_drew ?_ | refine blk_alloc ?_ _)); refine blk_far ?_ (by have h_ := Kd.R_ne HO_905001.out BK889.out (by decide); intro e_; exact h_ (by rw [e_]; rfl)) _; (with_reducible repeat (first | refine blk_drewN ?_ _ | refine blk_drew ?_ | refine blk_alloc ?_ _)); exact BK889.out⟩, ⟨by (with_reducible repeat (first | refine blk_drewN ?_ _ | refine blk_drew ?_ | refine blk_alloc ?_ _)); refine blk_far ?_ (by have h_ := Kd.R_ne HO_905001.out BK890.out (by decide); intro e_; exact h_ (by rw [e_]; rfl)) _; (with_reducible repeat (first | refine blk_drewN ?_ _ | refine blk_drew ?_ | refine blk_alloc ?_ _)); exact BK890.out⟩, ⟨by (with_reducible repeat (first | refine blk_drewN ?_ _ | refine blk_drew ?_ | refine blk_alloc ?_ _)); refine blk_far ?_ (by have h_ := Kd.R_ne HO_905001.out BK899.out (by decide); intro e_; exact h_ (by rw [e_]; rfl)) _; (with_reducible repeat (first | refine blk_drewN ?_ _ | refine blk_drew ?_ | refine blk_alloc ?_ _)); exact BK899.out⟩, ⟨by (with_reducible repeat (first | refine blk_drewN ?_ _ | refine blk_drew ?_ | refine blk_alloc ?_ _)); refine blk_far ?_ (by have h_ := Kd.R_ne HO_905001.out BK904.out (by decide); intro e_; exact h_ (by rw [e_]; rfl)) _; (with_reducible repeat (first | refine blk_drewN ?_ _ | refine blk_drew ?_ | refine blk_alloc ?_ _)); exact BK904.out⟩, ⟨by repeat (first | (with_reducible first | exact HI893.out | apply IsS90.alloc | apply IsS90.drewN | apply IsS90.drew | apply IsS90.set_1 | refine IsS90.far ?_ HN893_go28.out _ | refine IsS90.far ?_ NB893_889.out _ | refine IsS90.far ?_ NB893_890.out _ | refine IsS90.far ?_ NB893_899.out _ | refine IsS90.far ?_ NB893_904.out _) | exact HI893.out)⟩, ⟨by repeat (first | (with_reducible first | exact HB.out | apply below_alloc | apply pw_below_drewN | apply below_drew1 | refine below_set ?_ GB28.out | refine below_set ?_ (IsS90.ge HI893.out) | refine below_set ?_ GE889.out | refine below_set ?_ GE890.out | refine below_set ?_ GE899.out | refine below_set ?_ GE904.out) | exact HB.out)⟩⟩
      ·rw [if_neg c27] at H
       have c27b0 : decide (((rd_T26 x905001_1 x7_1).f4) < ((rd_T26 x905001_1 x7_1).f5)) = false := decide_eq_false c27
       clear c27
       have H' := Aside0.mk H
       clear H
       have hnb39 := NB904_889.out
       have hnc39 := NB889_904.out
       have hnb40 := NB904_890.out
       have hnc40 := NB890_904.out
       have hnb41 := NB904_899.out
       have hnc41 := NB899_904.out
       have hnb42 := NB904_893.out
       have hnc42 := NB893_904.out
       obtain ⟨hcz43_0, hcz43_1, hfz43_0, hfz43_1⟩ := zc2 BK904
       obtain ⟨Ao44, co44, eo44⟩ := Kd.R_slice HO_905001.out
       subst eo44
       try go_wp2_with (first | ((with_reducible refine gate_callee (f := 65) rfl ?_); refine gl (some 23) Try.func65 #[.pointer (some ⟨g893, 0, none⟩), .int .i64 8] ?_; (with_reducible refine (spec_l1Rd_pick.calls k1 g893 t891 x894001_1 8 t905 t906 w _ ?side1 ?side2 A24.out).mono ?_); (case side1 => exact qi HI893); (case side2 => exact qb HI893 HB); rintro e w45 ⟨rfl, hi, hb, hk⟩; refine ⟨_, rfl, ?_⟩; have _ := ra (Kd.R_mono (Kd.R_keep (IsS90.apart (show IsS90 w _ g893 t891 x894001_1 from qi HI893) (rq HO_900001) (by decide)) hk (fun _ h => h.2)) (fun _ h => h.1)); have _ := ra (Kd.R_mono (Kd.R_keep (IsS90.apart (show IsS90 w _ g893 t891 x894001_1 from qi HI893) (rq HO_905001) (by decide)) hk (fun _ h => h.2)) (fun _ h => h.1)); have _ := kv hk (bk BK889) NB889_893; have _ := kv hk (bk BK890) NB890_893; have _ := kv hk (bk BK899) NB899_893; have _ := kv hk (bk BK904) NB904_893; have _ := ra (hb); have _ := ra (hi); clear HO_900001 HO_905001 BK889 BK890 BK899 BK904 HB HI893; rename_i HO_900001 HO_905001 BK889 BK890 BK899 BK904 HB HI893; (try clear hb); (try clear hb2); (try clear hk); (try clear hi)))
       have _ := ra (Kd.R_drew HO_900001.out)
       have _ := ra (Kd.R_drew HO_905001.out)
       have _ := ra (blk_drew BK889.out)
       have _ := ra (blk_drew BK890.out)
       have _ := ra (blk_drew BK899.out)
       have _ := ra (blk_drew BK904.out)
       have _ := ra (IsS90.drew HI893.out)
       have _ := ra (below_drew1 HB.out)
       clear HO_900001 HO_905001 BK889 BK890 BK899 BK904 HI893 HB
       rename_i HO_900001 HO_905001 BK889 BK890 BK899 BK904 HI893 HB
       have p907 : 0 ≤ (x7_1 : Int) := od
       have q907 : x7_1 < (x905001_1.length : Int) := od
       obtain ⟨ad907, e907, hx907_0, hx907_1, hx907_2, hx907_3, hx907_4, hx907_5⟩ := at_T26 (Kd.R_reads' HO_905001.out).2.2 x7_1 p907 q907
       cases e907
       replace p907 := eq_true p907
       replace q907 := eq_true q907
       have p908 : 0 ≤ (x7_1 : Int) := od
       have q908 : x7_1 < (x905001_1.length : Int) := od
       obtain ⟨ad908, e908, hx908_0, hx908_1, hx908_2, hx908_3, hx908_4, hx908_5⟩ := at_T26 (Kd.R_reads' HO_905001.out).2.2 x7_1 p908 q908
       obtain rfl : ad907 = ad908 := (by injection e908)
       replace p908 := eq_true p908
       replace q908 := eq_true q908
       refine start_ (n := 13) (S := fun w' => w'.cell? ⟨gb904, 0, none⟩ = some (.string t900) ∧ w'.cell? ⟨gb904, 1, none⟩ = some (.slice (some ad907) x905001_1.length co44) ∧ w'.cell? (ad907.add ((x7_1).toNat * 6)) = some (.int .i64 ((rd_T26 x905001_1 x7_1).f0)) ∧ w'.cell? ⟨(ad907.add ((x7_1).toNat * 6)).block, (ad907.add ((x7_1).toNat * 6)).off + 1, none⟩ = some (.int .i64 ((rd_T26 x905001_1 x7_1).f1)) ∧ w'.cell? ⟨(ad907.add ((x7_1).toNat * 6)).block, (ad907.add ((x7_1).toNat * 6)).off + 2, none⟩ = some (.int .i64 ((rd_T26 x905001_1 x7_1).f2)) ∧ w'.cell? ⟨(ad907.add ((x7_1).toNat * 6)).block, (ad907.add ((x7_1).toNat * 6)).off + 3, none⟩ = some (.int .i64 ((rd_T26 x905001_1 x7_1).f3)) ∧ w'.cell? ⟨(ad907.add ((x7_1).toNat * 6)).block, (ad907.add ((x7_1).toNat * 6)).off + 4, none⟩ = some (.int .i64 ((rd_T26 x905001_1 x7_1).f4)) ∧ w'.cell? ⟨(ad907.add ((x7_1).toNat * 6)).block, (ad907.add ((x7_1).toNat * 6)).off + 5, none⟩ = some (.int .i64 ((rd_T26 x905001_1 x7_1).f5)) ∧ w'.cell? (ad907.add ((x7_1).toNat * 6)) = some (.int .i64 ((rd_T26 x905001_1 x7_1).f0)) ∧ w'.cell? ⟨(ad907.add ((x7_1).toNat * 6)).block, (ad907.add ((x7_1).toNat * 6)).off + 1, none⟩ = some (.int .i64 ((rd_T26 x905001_1 x7_1).f1)) ∧ w'.cell? ⟨(ad907.add ((x7_1).toNat * 6)).block, (ad907.add ((x7_1).toNat * 6)).off + 2, none⟩ = some (.int .i64 ((rd_T26 x905001_1 x7_1).f2)) ∧ w'.cell? ⟨(ad907.add ((x7_1).toNat * 6)).block, (ad907.add ((x7_1).toNat * 6)).off + 3, none⟩ = some (.int .i64 ((rd_T26 x905001_1 x7_1).f3)) ∧ w'.cell? ⟨(ad907.add ((x7_1).toNat * 6)).block, (ad907.add ((x7_1).toNat * 6)).off + 4, none⟩ = some (.int .i64 ((rd_T26 x905001_1 x7_1).f4)) ∧ w'.cell? ⟨(ad907.add ((x7_1).toNat * 6)).block, (ad907.add ((x7_1).toNat * 6)).off + 5, none⟩ = some (.int .i64 ((rd_T26 x905001_1 x7_1).f5))) (ds := []) (bl 13 0) (by kernel_rfl) rfl rfl ⟨(blk_cell BK904.out 0).trans rfl, (blk_cell BK904.out 1).trans rfl, hx907_0, hx907_1, hx907_2, hx907_3, hx907_4, hx907_5, hx908_0, hx908_1, hx908_2, hx908_3, hx908_4, hx908_5⟩ (fun hHeld => ?_); refine with_tabW spec_DrawProbeSmaller.tab9 spec_DrawProbeSmaller.bits9 (fun HT_ HW_ => ?_)
       generalize w45.drew = w46 at HO_900001 HO_905001 BK889 BK890 BK899 BK904 HI893 HB hx907_0 hx907_1 hx907_2 hx907_3 hx907_4 hx907_5 hx908_0 hx908_1 hx908_2 hx908_3 hx908_4 hx908_5 hHeld ⊢
       refine pu 0 26 (bl 13 1) ?_
       refine pu 2 28 (bl 13 5) ?_
       refine pu 6 32 (bl 13 69) ?_
       refine pu 8 34 (bl 13 325) ?_
       refine tk 1 27 (bl 13 327) ?_ hHeld
       refine pu 3 29 (bl 13 335) ?_
       refine pu 4 30 (bl 13 351) ?_
       refine tk 5 31 (bl 13 383) ?_ hHeld
       refine tk 7 33 (bl 13 511) ?_ hHeld
       refine pu 9 35 (bl 13 1023) ?_
       refine pu 10 36 (bl 13 2047) ?_
       refine tk 11 37 (bl 13 4095) ?_ hHeld
       refine pu 12 38 (bl 13 8191) ?_
       refine done_ (done_of HT_.out (by kernel_rfl)) ?_
       try go_wp2
       go_roundg k1
       case measure => have := HK1.out; omega
       case rel => exact ⟨(wrap64 (x7_1 + 1)), (t906), (x900001_1), (x905001_1), (u900001), (.slice (some ad907) x905001_1.length co44), rs, H', ⟨by have := HK1.out; omega⟩, ⟨rq HO_900001⟩, ⟨rq HO_905001⟩, ⟨bk BK889⟩, ⟨bk BK890⟩, ⟨bk BK899⟩, ⟨bk BK904⟩, ⟨by exact qi HI893⟩, ⟨by exact qb HI893 HB⟩⟩
     ·rw [if_neg c26] at H
      exact absurd H (by simp)
    ·rw [if_neg c25] at H
     have c25b0 : (t905 == 0) = false := beq_eq_false_iff_ne.mpr c25
     have c25b1 : (t905 != 0) = true := bne_iff_ne.mpr c25
     by_cases c47 : t905 = 1
     ·rw [if_pos c47] at H
      have c47b0 : (t905 == 1) = true := beq_iff_eq.mpr c47
      have c47b1 : (t905 != 1) = false := bne_eq_false_iff_eq.mpr c47
      clear c47
      by_cases c48 : 0 ≤ x7_1
      ·rw [if_pos c48] at H
       have c48b0 : decide (0 ≤ x7_1) = true := decide_eq_true c48
       clear c48
       by_cases c49 : ((rd_T26 x905001_1 x7_1).f2) < ((rd_T26 x905001_1 x7_1).f3)
       ·rw [if_pos c49] at H
        have c49b0 : decide (((rd_T26 x905001_1 x7_1).f2) < ((rd_T26 x905001_1 x7_1).f3)) = true := decide_eq_true c49
        clear c49
        obtain ⟨y914, hy_⟩ : ∃ y_ : List (S26), y_ = (x905001_1.set (x7_1 : Int).toNat (⟨(rd_T26 x905001_1 x7_1).f0, (rd_T26 x905001_1 x7_1).f1, (rd_T26 x905001_1 x7_1).f2, wrap64 (((rd_T26 x905001_1 x7_1).f3) - 1), (rd_T26 x905001_1 x7_1).f4, (rd_T26 x905001_1 x7_1).f5⟩ : S26)) := ⟨_, rfl⟩
        replace H : (spec_DrawProbeSmaller.l0 k1 (wrap64 (x7_1 + 1)) t891 t906 t894 x900001_1 t900 y914) = some (r1, r2, r3, r4) := yh
        have Ny914 := ra hy_
        clear hy_
        have H' := Aside0.mk H
        clear H
        have hnb51 := NB904_889.out
        have hnc51 := NB889_904.out
        have hnb52 := NB904_890.out
        have hnc52 := NB890_904.out
        have hnb53 := NB904_899.out
        have hnc53 := NB899_904.out
        have hnb54 := NB904_893.out
        have hnc54 := NB893_904.out
        obtain ⟨hcz55_0, hcz55_1, hfz55_0, hfz55_1⟩ := zc2 BK904
        obtain ⟨Ao56, co56, eo56⟩ := Kd.R_slice HO_905001.out
        subst eo56
        try go_wp2_with (first | ((with_reducible refine gate_callee (f := 65) rfl ?_); refine gl (some 23) Try.func65 #[.pointer (some ⟨g893, 0, none⟩), .int .i64 8] ?_; (with_reducible refine (spec_l1Rd_pick.calls k1 g893 t891 x894001_1 8 t905 t906 w _ ?side1 ?side2 A24.out).mono ?_); (case side1 => exact qi HI893); (case side2 => exact qb HI893 HB); rintro e w57 ⟨rfl, hi, hb, hk⟩; refine ⟨_, rfl, ?_⟩; have _ := ra (Kd.R_mono (Kd.R_keep (IsS90.apart (show IsS90 w _ g893 t891 x894001_1 from qi HI893) (rq HO_900001) (by decide)) hk (fun _ h => h.2)) (fun _ h => h.1)); have _ := ra (Kd.R_mono (Kd.R_keep (IsS90.apart (show IsS90 w _ g893 t891 x894001_1 from qi HI893) (rq HO_905001) (by decide)) hk (fun _ h => h.2)) (fun _ h => h.1)); have _ := kv hk (bk BK889) NB889_893; have _ := kv hk (bk BK890) NB890_893; have _ := kv hk (bk BK899) NB899_893; have _ := kv hk (bk BK904) NB904_893; have _ := ra (hb); have _ := ra (hi); clear HO_900001 HO_905001 BK889 BK890 BK899 BK904 HB HI893; rename_i HO_900001 HO_905001 BK889 BK890 BK899 BK904 HB HI893; (try clear hb); (try clear hb2); (try clear hk); (try clear hi)))
        have _ := ra (Kd.R_drew HO_900001.out)
        have _ := ra (Kd.R_drew HO_905001.out)
        have _ := ra (blk_drew BK889.out)
        have _ := ra (blk_drew BK890.out)
        have _ := ra (blk_drew BK899.out)
        have _ := ra (blk_drew BK904.out)
        have _ := ra (IsS90.drew HI893.out)
        have _ := ra (below_drew1 HB.out)
        clear HO_900001 HO_905001 BK889 BK890 BK899 BK904 HI893 HB
        rename_i HO_900001 HO_905001 BK889 BK890 BK899 BK904 HI893 HB
        have p911 : 0 ≤ (x7_1 : Int) := od
        have q911 : x7_1 < (x905001_1.length : Int) := od
        obtain ⟨ad911, e911, hx911_0, hx911_1, hx911_2, hx911_3, hx911_4, hx911_5⟩ := at_T26 (Kd.R_reads' HO_905001.out).2.2 x7_1 p911 q911
        cases e911
        replace p911 := eq_true p911
        replace q911 := eq_true q911
        have p912 : 0 ≤ (x7_1 : Int) := od
        have q912 : x7_1 < (x905001_1.length : Int) := od
        obtain ⟨ad912, e912, hx912_0, hx912_1, hx912_2, hx912_3, hx912_4, hx912_5⟩ := at_T26 (Kd.R_reads' HO_905001.out).2.2 x7_1 p912 q912
        obtain rfl : ad911 = ad912 := (by injection e912)
        replace p912 := eq_true p912
        replace q912 := eq_true q912
        refine start_ (n := 13) (S := fun w' => w'.cell? ⟨gb904, 0, none⟩ = some (.string t900) ∧ w'.cell? ⟨gb904, 1, none⟩ = some (.slice (some ad911) x905001_1.length co56) ∧ w'.cell? (ad911.add ((x7_1).toNat * 6)) = some (.int .i64 ((rd_T26 x905001_1 x7_1).f0)) ∧ w'.cell? ⟨(ad911.add ((x7_1).toNat * 6)).block, (ad911.add ((x7_1).toNat * 6)).off + 1, none⟩ = some (.int .i64 ((rd_T26 x905001_1 x7_1).f1)) ∧ w'.cell? ⟨(ad911.add ((x7_1).toNat * 6)).block, (ad911.add ((x7_1).toNat * 6)).off + 2, none⟩ = some (.int .i64 ((rd_T26 x905001_1 x7_1).f2)) ∧ w'.cell? ⟨(ad911.add ((x7_1).toNat * 6)).block, (ad911.add ((x7_1).toNat * 6)).off + 3, none⟩ = some (.int .i64 ((rd_T26 x905001_1 x7_1).f3)) ∧ w'.cell? ⟨(ad911.add ((x7_1).toNat * 6)).block, (ad911.add ((x7_1).toNat * 6)).off + 4, none⟩ = some (.int .i64 ((rd_T26 x905001_1 x7_1).f4)) ∧ w'.cell? ⟨(ad911.add ((x7_1).toNat * 6)).block, (ad911.add ((x7_1).toNat * 6)).off + 5, none⟩ = some (.int .i64 ((rd_T26 x905001_1 x7_1).f5)) ∧ w'.cell? (ad911.add ((x7_1).toNat * 6)) = some (.int .i64 ((rd_T26 x905001_1 x7_1).f0)) ∧ w'.cell? ⟨(ad911.add ((x7_1).toNat * 6)).block, (ad911.add ((x7_1).toNat * 6)).off + 1, none⟩ = some (.int .i64 ((rd_T26 x905001_1 x7_1).f1)) ∧ w'.cell? ⟨(ad911.add ((x7_1).toNat * 6)).block, (ad911.add ((x7_1).toNat * 6)).off + 2, none⟩ = some (.int .i64 ((rd_T26 x905001_1 x7_1).f2)) ∧ w'.cell? ⟨(ad911.add ((x7_1).toNat * 6)).block, (ad911.add ((x7_1).toNat * 6)).off + 3, none⟩ = some (.int .i64 ((rd_T26 x905001_1 x7_1).f3)) ∧ w'.cell? ⟨(ad911.add ((x7_1).toNat * 6)).block, (ad911.add ((x7_1).toNat * 6)).off + 4, none⟩ = some (.int .i64 ((rd_T26 x905001_1 x7_1).f4)) ∧ w'.cell? ⟨(ad911.add ((x7_1).toNat * 6)).block, (ad911.add ((x7_1).toNat * 6)).off + 5, none⟩ = some (.int .i64 ((rd_T26 x905001_1 x7_1).f5))) (ds := []) (bl 13 0) (by kernel_rfl) rfl rfl ⟨(blk_cell BK904.out 0).trans rfl, (blk_cell BK904.out 1).trans rfl, hx911_0, hx911_1, hx911_2, hx911_3, hx911_4, hx911_5, hx912_0, hx912_1, hx912_2, hx912_3, hx912_4, hx912_5⟩ (fun hHeld => ?_); refine with_tabW spec_DrawProbeSmaller.tab12 spec_DrawProbeSmaller.bits12 (fun HT_ HW_ => ?_)
        generalize w57.drew = w58 at HO_900001 HO_905001 BK889 BK890 BK899 BK904 HI893 HB hx911_0 hx911_1 hx911_2 hx911_3 hx911_4 hx911_5 hx912_0 hx912_1 hx912_2 hx912_3 hx912_4 hx912_5 hHeld ⊢
        refine pu 0 53 (bl 13 1) ?_
        refine pu 2 55 (bl 13 5) ?_
        refine pu 6 59 (bl 13 69) ?_
        refine pu 8 61 (bl 13 325) ?_
        refine tk 1 54 (bl 13 327) ?_ hHeld
        refine pu 3 56 (bl 13 335) ?_
        refine pu 4 57 (bl 13 351) ?_
        refine tk 5 58 (bl 13 383) ?_ hHeld
        refine tk 7 60 (bl 13 511) ?_ hHeld
        refine pu 9 62 (bl 13 1023) ?_
        refine pu 10 63 (bl 13 2047) ?_
        refine tk 11 64 (bl 13 4095) ?_ hHeld
        refine pu 12 65 (bl 13 8191) ?_
        refine done_ (done_of HT_.out (by kernel_rfl)) ?_
        try go_wp2
        have _ := ra (Kd.R_drew HO_900001.out)
        have _ := ra (Kd.R_drew HO_905001.out)
        have _ := ra (blk_drew BK889.out)
        have _ := ra (blk_drew BK890.out)
        have _ := ra (blk_drew BK899.out)
        have _ := ra (blk_drew BK904.out)
        have _ := ra (IsS90.drew HI893.out)
        have _ := ra (below_drew1 HB.out)
        clear HO_900001 HO_905001 BK889 BK890 BK899 BK904 HI893 HB
        rename_i HO_900001 HO_905001 BK889 BK890 BK899 BK904 HI893 HB
        have p913 : 0 ≤ (x7_1 : Int) := od
        have q913 : x7_1 < (x905001_1.length : Int) := od
        obtain ⟨ad913, e913, hx913_0, hx913_1, hx913_2, hx913_3, hx913_4, hx913_5⟩ := at_T26 (Kd.R_reads' HO_905001.out).2.2 x7_1 p913 q913
        obtain rfl : ad911 = ad913 := (by injection e913)
        replace p913 := eq_true p913
        replace q913 := eq_true q913
        have p50 : 0 ≤ (x7_1 : Int) := od
        have q50 : (x7_1 : Int) < ((x905001_1.length : Int) : Int) := od
        obtain ⟨go50, co50, eo50, gb50, gl50, cl50, HG50⟩ := Kd.R_form HO_905001.out (by omega)
        (first | cases eo50 | (injection eo50 with ea_ en_ ec_; (first | subst ea_ | (injection ea_ with ea_; subst ea_)); subst ec_; clear en_))
        have GB50 := Aside0.mk gb50
        have GG50 := Aside0.mk HG50
        clear gb50 gl50 HG50
        (first | simp only [add_plain] at hx911_0 | skip)
        (first | simp only [add_plain] at hx911_1 | skip)
        (first | simp only [add_plain] at hx911_2 | skip)
        (first | simp only [add_plain] at hx911_3 | skip)
        (first | simp only [add_plain] at hx911_4 | skip)
        (first | simp only [add_plain] at hx911_5 | skip)
        (first | simp only [add_plain] at hx912_0 | skip)
        (first | simp only [add_plain] at hx912_1 | skip)
        (first | simp only [add_plain] at hx912_2 | skip)
        (first | simp only [add_plain] at hx912_3 | skip)
        (first | simp only [add_plain] at hx912_4 | skip)
        (first | simp only [add_plain] at hx912_5 | skip)
        (first | simp only [add_plain] at hx913_0 | skip)
        (first | simp only [add_plain] at hx913_1 | skip)
        (first | simp only [add_plain] at hx913_2 | skip)
        (first | simp only [add_plain] at hx913_3 | skip)
        (first | simp only [add_plain] at hx913_4 | skip)
        (first | simp only [add_plain] at hx913_5 | skip)
        obtain ⟨ce50, hcl50, hM50, hcc50, hfr50⟩ := Kd.R_elem HO_905001.out z26 (x7_1 : Int) p50 q50
        obtain rfl := k26_openM hM50
        have hx50_0 : World.cell? _ ⟨go50, (x7_1 : Int).toNat * 6, none⟩ = some (.int .i64 ((rd_T26 x905001_1 x7_1).f0)) := hcc50 0 _ rfl
        have hx50_1 : World.cell? _ ⟨go50, (x7_1 : Int).toNat * 6 + 1, none⟩ = some (.int .i64 ((rd_T26 x905001_1 x7_1).f1)) := hcc50 1 _ rfl
        have hx50_2 : World.cell? _ ⟨go50, (x7_1 : Int).toNat * 6 + 2, none⟩ = some (.int .i64 ((rd_T26 x905001_1 x7_1).f2)) := hcc50 2 _ rfl
        have hx50_3 : World.cell? _ ⟨go50, (x7_1 : Int).toNat * 6 + 3, none⟩ = some (.int .i64 ((rd_T26 x905001_1 x7_1).f3)) := hcc50 3 _ rfl
        have hx50_4 : World.cell? _ ⟨go50, (x7_1 : Int).toNat * 6 + 4, none⟩ = some (.int .i64 ((rd_T26 x905001_1 x7_1).f4)) := hcc50 4 _ rfl
        have hx50_5 : World.cell? _ ⟨go50, (x7_1 : Int).toNat * 6 + 5, none⟩ = some (.int .i64 ((rd_T26 x905001_1 x7_1).f5)) := hcc50 5 _ rfl
        have hf50_0 : World.frozen? _ ⟨go50, (x7_1 : Int).toNat * 6, none⟩ = false := hfr50 0
        have hf50_1 : World.frozen? _ ⟨go50, (x7_1 : Int).toNat * 6 + 1, none⟩ = false := hfr50 1
        have hf50_2 : World.frozen? _ ⟨go50, (x7_1 : Int).toNat * 6 + 2, none⟩ = false := hfr50 2
        have hf50_3 : World.frozen? _ ⟨go50, (x7_1 : Int).toNat * 6 + 3, none⟩ = false := hfr50 3
        have hf50_4 : World.frozen? _ ⟨go50, (x7_1 : Int).toNat * 6 + 4, none⟩ = false := hfr50 4
        have hf50_5 : World.frozen? _ ⟨go50, (x7_1 : Int).toNat * 6 + 5, none⟩ = false := hfr50 5
        clear hcl50 hcc50 hfr50 hM50
        replace p50 := eq_true p50
        replace q50 := eq_true q50
        have HN893_go50 := ra (show g893 ≠ go50 from by have h_ := IsS90.own_ne HI893.out HO_905001.out (by decide); intro e_; exact h_ (by rw [e_]; rfl))
        obtain ⟨ce60, hcl60, hM60, hcc60, hfr60⟩ := Kd.R_elem HO_905001.out z26 (x7_1 : Int) (od) (by have h_ : (x7_1 : Int) < ((x905001_1.length : Int) : Int) := od; first | exact h_ | (have e_ := (Kd.R_reads' HO_905001.out).1; omega) | simpa using h_)
        obtain rfl := k26_openM hM60
        have HP60 := (Kd.R_seg HO_905001.out (x7_1 : Int) (od) (by have h_ : (x7_1 : Int) < ((x905001_1.length : Int) : Int) := od; first | exact h_ | (have e_ := (Kd.R_reads' HO_905001.out).1; omega) | simpa using h_) (seg := [.int .i64 (wrap64 (((rd_T26 x905001_1 x7_1).f3) - 1))]) (j := 3) hcl60 hcc60 (show 4 ≤ 6 from by decide) (x' := (⟨(rd_T26 x905001_1 x7_1).f0, (rd_T26 x905001_1 x7_1).f1, (rd_T26 x905001_1 x7_1).f2, wrap64 (((rd_T26 x905001_1 x7_1).f3) - 1), (rd_T26 x905001_1 x7_1).f4, (rd_T26 x905001_1 x7_1).f5⟩ : S26)) (k26_mkM _ _ _ (⟨(rd_T26 x905001_1 x7_1).f0, (rd_T26 x905001_1 x7_1).f1, (rd_T26 x905001_1 x7_1).f2, wrap64 (((rd_T26 x905001_1 x7_1).f3) - 1), (rd_T26 x905001_1 x7_1).f4, (rd_T26 x905001_1 x7_1).f5⟩ : S26) ) (fun _ hk => hk)).1
        rw [← Ny914.out] at HP60
        have HQ60 := Aside0.mk HP60
        clear hcl60 hcc60 hfr60 hM60 HP60
        refine start_ (n := 13) (S := fun w' => w'.cell? ⟨gb904, 0, none⟩ = some (.string t900) ∧ w'.cell? ⟨gb904, 1, none⟩ = some (.slice (some ⟨go50, 0, none⟩) x905001_1.length co56) ∧ w'.cell? ⟨go50, ((x7_1).toNat * 6), none⟩ = some (.int .i64 ((rd_T26 x905001_1 x7_1).f0)) ∧ w'.cell? ⟨go50, ((x7_1).toNat * 6) + 1, none⟩ = some (.int .i64 ((rd_T26 x905001_1 x7_1).f1)) ∧ w'.cell? ⟨go50, ((x7_1).toNat * 6) + 2, none⟩ = some (.int .i64 ((rd_T26 x905001_1 x7_1).f2)) ∧ w'.cell? ⟨go50, ((x7_1).toNat * 6) + 3, none⟩ = some (.int .i64 ((rd_T26 x905001_1 x7_1).f3)) ∧ w'.cell? ⟨go50, ((x7_1).toNat * 6) + 4, none⟩ = some (.int .i64 ((rd_T26 x905001_1 x7_1).f4)) ∧ w'.cell? ⟨go50, ((x7_1).toNat * 6) + 5, none⟩ = some (.int .i64 ((rd_T26 x905001_1 x7_1).f5))) (ds := [12]) #[false, false, false, false, false, false, false, false, false, false, false, false, false] (by kernel_rfl) rfl rfl ⟨(blk_cell BK904.out 0).trans rfl, (blk_cell BK904.out 1).trans rfl, hx913_0, hx913_1, hx913_2, hx913_3, hx913_4, hx913_5⟩ (fun hHeld => ?_); refine with_tabW spec_DrawProbeSmaller.tab13 spec_DrawProbeSmaller.bits13 (fun HT_ HW_ => ?_)
        generalize w58.drew = w59 at HO_900001 HO_905001 BK889 BK890 BK899 BK904 HI893 HB GG50 HQ60 hf50_0 hf50_1 hf50_2 hf50_3 hf50_4 hf50_5 hx50_0 hx50_1 hx50_2 hx50_3 hx50_4 hx50_5 hx911_0 hx911_1 hx911_2 hx911_3 hx911_4 hx911_5 hx912_0 hx912_1 hx912_2 hx912_3 hx912_4 hx912_5 hx913_0 hx913_1 hx913_2 hx913_3 hx913_4 hx913_5 hHeld ⊢
        refine pu 0 66 (bl 13 1) ?_
        refine pu 2 68 (bl 13 5) ?_
        refine pu 3 69 (bl 13 13) ?_
        refine pu 5 71 (bl 13 45) ?_
        refine tk 1 67 (bl 13 47) ?_ hHeld
        refine tk 4 70 (bl 13 63) ?_ hHeld
        refine pu 6 72 (bl 13 127) ?_
        refine pu 7 73 (bl 13 255) ?_
        refine tk 8 74 (bl 13 511) ?_ hHeld
        refine pu 9 75 (bl 13 1023) ?_
        refine pu 10 76 (bl 13 2047) ?_
        refine pu 11 77 (bl 13 4095) ?_
        refine last_ (i := 12) (N := none) #[true, true, true, true, true, true, true, true, true, true, true, true, true] rfl rfl (one_of HT_.out (by kernel_rfl)) (by decide) (fun K hK => ?_)
        refine skip_ (w1 := ?_) (by rfl) rfl ?_ ?_
        rotate_left
        ·go_simp
         rfl
        refine hK.out _ _ ?_
        clear hK K
        refine done_ (done_of HT_.out (by kernel_rfl)) ?_
        try go_wp2
        go_roundg k1
        case measure => have := HK1.out; omega
        case rel => exact ⟨(wrap64 (x7_1 + 1)), (t906), (x900001_1), (y914), (u900001), (.slice (some ⟨go50, 0, none⟩) x905001_1.length co56), rs, H', ⟨by have := HK1.out; omega⟩, ⟨by (with_reducible repeat (first | apply Kd.R_alloc | apply Kd.R_drewN | apply Kd.R_drew)); exact Kd.R_mono (rf (Kd.R_mono HO_900001.out (fun k_ hk => (⟨hk, fun e_ => hk (by rw [e_]; rfl)⟩ : _ ∧ k_ ≠ go50)))) (fun _ hk => hk.1)⟩, ⟨by (with_reducible repeat (first | apply Kd.R_alloc | apply Kd.R_drewN | apply Kd.R_drew)); exact HQ60.out⟩, ⟨by (with_reducible repeat (first | refine blk_drewN ?_ _ | refine blk_drew ?_ | refine blk_alloc ?_ _)); refine blk_far ?_ (by have h_ := Kd.R_ne HO_905001.out BK889.out (by decide); intro e_; exact h_ (by rw [e_]; rfl)) _; (with_reducible repeat (first | refine blk_drewN ?_ _ | refine blk_drew ?_ | refine blk_alloc ?_ _)); exact BK889.out⟩, ⟨by (with_reducible repeat (first | refine blk_drewN ?_ _ | refine blk_drew ?_ | refine blk_alloc ?_ _)); refine blk_far ?_ (by have h_ := Kd.R_ne HO_905001.out BK890.out (by decide); intro e_; exact h_ (by rw [e_]; rfl)) _; (with_reducible repeat (first | refine blk_drewN ?_ _ | refine blk_drew ?_ | refine blk_alloc ?_ _)); exact BK890.out⟩, ⟨by (with_reducible repeat (first | refine blk_drewN ?_ _ | refine blk_drew ?_ | refine blk_alloc ?_ _)); refine blk_far ?_ (by have h_ := Kd.R_ne HO_905001.out BK899.out (by decide); intro e_; exact h_ (by rw [e_]; rfl)) _; (with_reducible repeat (first | refine blk_drewN ?_ _ | refine blk_drew ?_ | refine blk_alloc ?_ _)); exact BK899.out⟩, ⟨by (with_reducible repeat (first | refine blk_drewN ?_ _ | refine blk_drew ?_ | refine blk_alloc ?_ _)); refine blk_far ?_ (by have h_ := Kd.R_ne HO_905001.out BK904.out (by decide); intro e_; exact h_ (by rw [e_]; rfl)) _; (with_reducible repeat (first | refine blk_drewN ?_ _ | refine blk_drew ?_ | refine blk_alloc ?_ _)); exact BK904.out⟩, ⟨by repeat (first | (with_reducible first | exact HI893.out | apply IsS90.alloc | apply IsS90.drewN | apply IsS90.drew | apply IsS90.set_1 | refine IsS90.far ?_ HN893_go50.out _ | refine IsS90.far ?_ NB893_889.out _ | refine IsS90.far ?_ NB893_890.out _ | refine IsS90.far ?_ NB893_899.out _ | refine IsS90.far ?_ NB893_904.out _) | exact HI893.out)⟩, ⟨by repeat (first | (with_reducible first | exact HB.out | apply below_alloc | apply pw_below_drewN | apply below_drew1 | refine below_set ?_ GB50.out | refine below_set ?_ (IsS90.ge HI893.out) | refine below_set ?_ GE889.out | refine below_set ?_ GE890.out | refine below_set ?_ GE899.out | refine below_set ?_ GE904.out) | exact HB.out)⟩⟩
       ·rw [if_neg c49] at H
        have c49b0 : decide (((rd_T26 x905001_1 x7_1).f2) < ((rd_T26 x905001_1 x7_1).f3)) = false := decide_eq_false c49
        clear c49
        have H' := Aside0.mk H
        clear H
        have hnb61 := NB904_889.out
        have hnc61 := NB889_904.out
        have hnb62 := NB904_890.out
        have hnc62 := NB890_904.out
        have hnb63 := NB904_899.out
        have hnc63 := NB899_904.out
        have hnb64 := NB904_893.out
        have hnc64 := NB893_904.out
        obtain ⟨hcz65_0, hcz65_1, hfz65_0, hfz65_1⟩ := zc2 BK904
        obtain ⟨Ao66, co66, eo66⟩ := Kd.R_slice HO_905001.out
        subst eo66
        try go_wp2_with (first | ((with_reducible refine gate_callee (f := 65) rfl ?_); refine gl (some 23) Try.func65 #[.pointer (some ⟨g893, 0, none⟩), .int .i64 8] ?_; (with_reducible refine (spec_l1Rd_pick.calls k1 g893 t891 x894001_1 8 t905 t906 w _ ?side1 ?side2 A24.out).mono ?_); (case side1 => exact qi HI893); (case side2 => exact qb HI893 HB); rintro e w67 ⟨rfl, hi, hb, hk⟩; refine ⟨_, rfl, ?_⟩; have _ := ra (Kd.R_mono (Kd.R_keep (IsS90.apart (show IsS90 w _ g893 t891 x894001_1 from qi HI893) (rq HO_900001) (by decide)) hk (fun _ h => h.2)) (fun _ h => h.1)); have _ := ra (Kd.R_mono (Kd.R_keep (IsS90.apart (show IsS90 w _ g893 t891 x894001_1 from qi HI893) (rq HO_905001) (by decide)) hk (fun _ h => h.2)) (fun _ h => h.1)); have _ := kv hk (bk BK889) NB889_893; have _ := kv hk (bk BK890) NB890_893; have _ := kv hk (bk BK899) NB899_893; have _ := kv hk (bk BK904) NB904_893; have _ := ra (hb); have _ := ra (hi); clear HO_900001 HO_905001 BK889 BK890 BK899 BK904 HB HI893; rename_i HO_900001 HO_905001 BK889 BK890 BK899 BK904 HB HI893; (try clear hb); (try clear hb2); (try clear hk); (try clear hi)))
        have _ := ra (Kd.R_drew HO_900001.out)
        have _ := ra (Kd.R_drew HO_905001.out)
        have _ := ra (blk_drew BK889.out)
        have _ := ra (blk_drew BK890.out)
        have _ := ra (blk_drew BK899.out)
        have _ := ra (blk_drew BK904.out)
        have _ := ra (IsS90.drew HI893.out)
        have _ := ra (below_drew1 HB.out)
        clear HO_900001 HO_905001 BK889 BK890 BK899 BK904 HI893 HB
        rename_i HO_900001 HO_905001 BK889 BK890 BK899 BK904 HI893 HB
        have p911 : 0 ≤ (x7_1 : Int) := od
        have q911 : x7_1 < (x905001_1.length : Int) := od
        obtain ⟨ad911, e911, hx911_0, hx911_1, hx911_2, hx911_3, hx911_4, hx911_5⟩ := at_T26 (Kd.R_reads' HO_905001.out).2.2 x7_1 p911 q911
        cases e911
        replace p911 := eq_true p911
        replace q911 := eq_true q911
        have p912 : 0 ≤ (x7_1 : Int) := od
        have q912 : x7_1 < (x905001_1.length : Int) := od
        obtain ⟨ad912, e912, hx912_0, hx912_1, hx912_2, hx912_3, hx912_4, hx912_5⟩ := at_T26 (Kd.R_reads' HO_905001.out).2.2 x7_1 p912 q912
        obtain rfl : ad911 = ad912 := (by injection e912)
        replace p912 := eq_true p912
        replace q912 := eq_true q912
        refine start_ (n := 13) (S := fun w' => w'.cell? ⟨gb904, 0, none⟩ = some (.string t900) ∧ w'.cell? ⟨gb904, 1, none⟩ = some (.slice (some ad911) x905001_1.length co66) ∧ w'.cell? (ad911.add ((x7_1).toNat * 6)) = some (.int .i64 ((rd_T26 x905001_1 x7_1).f0)) ∧ w'.cell? ⟨(ad911.add ((x7_1).toNat * 6)).block, (ad911.add ((x7_1).toNat * 6)).off + 1, none⟩ = some (.int .i64 ((rd_T26 x905001_1 x7_1).f1)) ∧ w'.cell? ⟨(ad911.add ((x7_1).toNat * 6)).block, (ad911.add ((x7_1).toNat * 6)).off + 2, none⟩ = some (.int .i64 ((rd_T26 x905001_1 x7_1).f2)) ∧ w'.cell? ⟨(ad911.add ((x7_1).toNat * 6)).block, (ad911.add ((x7_1).toNat * 6)).off + 3, none⟩ = some (.int .i64 ((rd_T26 x905001_1 x7_1).f3)) ∧ w'.cell? ⟨(ad911.add ((x7_1).toNat * 6)).block, (ad911.add ((x7_1).toNat * 6)).off + 4, none⟩ = some (.int .i64 ((rd_T26 x905001_1 x7_1).f4)) ∧ w'.cell? ⟨(ad911.add ((x7_1).toNat * 6)).block, (ad911.add ((x7_1).toNat * 6)).off + 5, none⟩ = some (.int .i64 ((rd_T26 x905001_1 x7_1).f5)) ∧ w'.cell? (ad911.add ((x7_1).toNat * 6)) = some (.int .i64 ((rd_T26 x905001_1 x7_1).f0)) ∧ w'.cell? ⟨(ad911.add ((x7_1).toNat * 6)).block, (ad911.add ((x7_1).toNat * 6)).off + 1, none⟩ = some (.int .i64 ((rd_T26 x905001_1 x7_1).f1)) ∧ w'.cell? ⟨(ad911.add ((x7_1).toNat * 6)).block, (ad911.add ((x7_1).toNat * 6)).off + 2, none⟩ = some (.int .i64 ((rd_T26 x905001_1 x7_1).f2)) ∧ w'.cell? ⟨(ad911.add ((x7_1).toNat * 6)).block, (ad911.add ((x7_1).toNat * 6)).off + 3, none⟩ = some (.int .i64 ((rd_T26 x905001_1 x7_1).f3)) ∧ w'.cell? ⟨(ad911.add ((x7_1).toNat * 6)).block, (ad911.add ((x7_1).toNat * 6)).off + 4, none⟩ = some (.int .i64 ((rd_T26 x905001_1 x7_1).f4)) ∧ w'.cell? ⟨(ad911.add ((x7_1).toNat * 6)).block, (ad911.add ((x7_1).toNat * 6)).off + 5, none⟩ = some (.int .i64 ((rd_T26 x905001_1 x7_1).f5))) (ds := []) (bl 13 0) (by kernel_rfl) rfl rfl ⟨(blk_cell BK904.out 0).trans rfl, (blk_cell BK904.out 1).trans rfl, hx911_0, hx911_1, hx911_2, hx911_3, hx911_4, hx911_5, hx912_0, hx912_1, hx912_2, hx912_3, hx912_4, hx912_5⟩ (fun hHeld => ?_); refine with_tabW spec_DrawProbeSmaller.tab12 spec_DrawProbeSmaller.bits12 (fun HT_ HW_ => ?_)
        generalize w67.drew = w68 at HO_900001 HO_905001 BK889 BK890 BK899 BK904 HI893 HB hx911_0 hx911_1 hx911_2 hx911_3 hx911_4 hx911_5 hx912_0 hx912_1 hx912_2 hx912_3 hx912_4 hx912_5 hHeld ⊢
        refine pu 0 53 (bl 13 1) ?_
        refine pu 2 55 (bl 13 5) ?_
        refine pu 6 59 (bl 13 69) ?_
        refine pu 8 61 (bl 13 325) ?_
        refine tk 1 54 (bl 13 327) ?_ hHeld
        refine pu 3 56 (bl 13 335) ?_
        refine pu 4 57 (bl 13 351) ?_
        refine tk 5 58 (bl 13 383) ?_ hHeld
        refine tk 7 60 (bl 13 511) ?_ hHeld
        refine pu 9 62 (bl 13 1023) ?_
        refine pu 10 63 (bl 13 2047) ?_
        refine tk 11 64 (bl 13 4095) ?_ hHeld
        refine pu 12 65 (bl 13 8191) ?_
        refine done_ (done_of HT_.out (by kernel_rfl)) ?_
        try go_wp2
        go_roundg k1
        case measure => have := HK1.out; omega
        case rel => exact ⟨(wrap64 (x7_1 + 1)), (t906), (x900001_1), (x905001_1), (u900001), (.slice (some ad911) x905001_1.length co66), rs, H', ⟨by have := HK1.out; omega⟩, ⟨rq HO_900001⟩, ⟨rq HO_905001⟩, ⟨bk BK889⟩, ⟨bk BK890⟩, ⟨bk BK899⟩, ⟨bk BK904⟩, ⟨by exact qi HI893⟩, ⟨by exact qb HI893 HB⟩⟩
      ·rw [if_neg c48] at H
       exact absurd H (by simp)
     ·rw [if_neg c47] at H
      have c47b0 : (t905 == 1) = false := beq_eq_false_iff_ne.mpr c47
      have c47b1 : (t905 != 1) = true := bne_iff_ne.mpr c47
      have H' := Aside0.mk H
      clear H
      have hnb69 := NB904_889.out
      have hnc69 := NB889_904.out
      have hnb70 := NB904_890.out
      have hnc70 := NB890_904.out
      have hnb71 := NB904_899.out
      have hnc71 := NB899_904.out
      have hnb72 := NB904_893.out
      have hnc72 := NB893_904.out
      obtain ⟨hcz73_0, hcz73_1, hfz73_0, hfz73_1⟩ := zc2 BK904
      obtain ⟨Ao74, co74, eo74⟩ := Kd.R_slice HO_905001.out
      subst eo74
      go_wp2_with (first | ((with_reducible refine gate_callee (f := 65) rfl ?_); refine gl (some 23) Try.func65 #[.pointer (some ⟨g893, 0, none⟩), .int .i64 8] ?_; (with_reducible refine (spec_l1Rd_pick.calls k1 g893 t891 x894001_1 8 t905 t906 w _ ?side1 ?side2 A24.out).mono ?_); (case side1 => exact qi HI893); (case side2 => exact qb HI893 HB); rintro e w75 ⟨rfl, hi, hb, hk⟩; refine ⟨_, rfl, ?_⟩; have _ := ra (Kd.R_mono (Kd.R_keep (IsS90.apart (show IsS90 w _ g893 t891 x894001_1 from qi HI893) (rq HO_900001) (by decide)) hk (fun _ h => h.2)) (fun _ h => h.1)); have _ := ra (Kd.R_mono (Kd.R_keep (IsS90.apart (show IsS90 w _ g893 t891 x894001_1 from qi HI893) (rq HO_905001) (by decide)) hk (fun _ h => h.2)) (fun _ h => h.1)); have _ := kv hk (bk BK889) NB889_893; have _ := kv hk (bk BK890) NB890_893; have _ := kv hk (bk BK899) NB899_893; have _ := kv hk (bk BK904) NB904_893; have _ := ra (hb); have _ := ra (hi); clear HO_900001 HO_905001 BK889 BK890 BK899 BK904 HB HI893; rename_i HO_900001 HO_905001 BK889 BK890 BK899 BK904 HB HI893; (try clear hb); (try clear hb2); (try clear hk); (try clear hi)))
      go_roundg k1
      case measure => have := HK1.out; omega
      case rel => exact ⟨(wrap64 (x7_1 + 1)), (t906), (x900001_1), (x905001_1), (u900001), (.slice Ao74 x905001_1.length co74), rs, H', ⟨by have := HK1.out; omega⟩, ⟨rq HO_900001⟩, ⟨rq HO_905001⟩, ⟨bk BK889⟩, ⟨bk BK890⟩, ⟨bk BK899⟩, ⟨bk BK904⟩, ⟨by exact qi HI893⟩, ⟨by exact qb HI893 HB⟩⟩
   ·rw [if_neg c23] at H
    have c23b0 : decide (x7_1 < (x905001_1.length : Int)) = false := decide_eq_false c23
    clear c23
    have HC76 := Aside0.mk H
    clear H
    have hnb77 := NB904_889.out
    have hnc77 := NB889_904.out
    have hnb78 := NB904_890.out
    have hnc78 := NB890_904.out
    have hnb79 := NB904_899.out
    have hnc79 := NB899_904.out
    have hnb80 := NB904_893.out
    have hnc80 := NB893_904.out
    obtain ⟨hcz81_0, hcz81_1, hfz81_0, hfz81_1⟩ := zc2 BK904
    obtain ⟨Ao82, co82, eo82⟩ := Kd.R_slice HO_905001.out
    subst eo82
    go_upto_region 14 with (fail)
    go_cut [86] (fun v86 wc => ∃ (kq : Nat) (x86_75 : Bool) (x894001_75 : Int), v86 = .bool x86_75 ∧ Aside0 (spec_DrawProbeSmaller.j1 kq x86_75 t891 x894001_75 t894 x900001_1 t900 x905001_1 = some (r1, r2, r3, r4)) ∧ Aside0 (kq ≤ k1) ∧ Aside0 (Kd.R k26 26 wc w.heap.size (fun k_ => some k_ ≠ ((.slice Ao82 x905001_1.length co82) : Value).ownBlock) u900001 x900001_1) ∧ Aside0 (Kd.R k26 26 wc w.heap.size (fun k_ => some k_ ≠ (u900001 : Value).ownBlock) (.slice Ao82 x905001_1.length co82) x905001_1) ∧ Aside0 (wc.heap[gb889]? = some (.cells #[.string (⟨#[]⟩ : ByteArray), (.slice none 0 0)] 39 (0, 0))) ∧ Aside0 (wc.heap[gb890]? = some (.cells #[.string (⟨#[]⟩ : ByteArray), (.slice none 0 0)] 39 (0, 0))) ∧ Aside0 (wc.heap[gb899]? = some (.cells #[.string t894, u900001] 39 (0, 0))) ∧ Aside0 (wc.heap[gb904]? = some (.cells #[.string t900, (.slice Ao82 x905001_1.length co82)] 39 (0, 0))) ∧ Aside0 (IsS90 w wc g893 t891 x894001_75) ∧ Aside0 (Below w.heap.size w wc))
    case first =>
     have H := HC76.out
     clear HC76
     by_cases c83 : (x905001_1.length : Int) > 0
     ·rw [if_pos c83] at H
      have c83b0 : decide (0 < (x905001_1.length : Int)) = true := decide_eq_true c83
      have c83b1 : decide (0 < x905001_1.length) = true := decide_eq_true (by omega)
      clear c83
      (first | rw [c83b0] | (simp only [i64_w, i32_w]; rw [c83b0]) | skip)
      obtain ⟨⟨t915, t916⟩, A84, H⟩ := bo H
      try dsimp only at H
      have H' := Aside0.mk H
      clear H
      have hnb85 := NB904_889.out
      have hnc85 := NB889_904.out
      have hnb86 := NB904_890.out
      have hnc86 := NB890_904.out
      have hnb87 := NB904_899.out
      have hnc87 := NB899_904.out
      have hnb88 := NB904_893.out
      have hnc88 := NB893_904.out
      obtain ⟨hcz89_0, hcz89_1, hfz89_0, hfz89_1⟩ := zc2 BK904
      go_wp2_with (first | (go_at_call 65; (with_reducible refine (spec_l1Rd_pick.calls k1 g893 t891 x894001_1 2 t915 t916 w _ ?side1 ?side2 A84.out).mono ?_); (case side1 => exact qi HI893); (case side2 => exact qb HI893 HB); rintro e w90 ⟨rfl, hi, hb, hk⟩; have _ := ra (Kd.R_mono (Kd.R_keep (IsS90.apart (show IsS90 w _ g893 t891 x894001_1 from qi HI893) (rq HO_900001) (by decide)) hk (fun _ h => h.2)) (fun _ h => h.1)); have _ := ra (Kd.R_mono (Kd.R_keep (IsS90.apart (show IsS90 w _ g893 t891 x894001_1 from qi HI893) (rq HO_905001) (by decide)) hk (fun _ h => h.2)) (fun _ h => h.1)); have _ := kv hk (bk BK889) NB889_893; have _ := kv hk (bk BK890) NB890_893; have _ := kv hk (bk BK899) NB899_893; have _ := kv hk (bk BK904) NB904_893; have _ := ra (hb); have _ := ra (hi); clear HO_900001 HO_905001 BK889 BK890 BK899 BK904 HB HI893; rename_i HO_900001 HO_905001 BK889 BK890 BK899 BK904 HB HI893; (try clear hb); (try clear hb2); (try clear hk); (try clear hi)))
      go_meet
      case rel => exact ⟨_, ((t915 == 0)), (t916), rs, H', ⟨by have := HK1.out; first | omega | exact Nat.le_refl _⟩, ⟨rq HO_900001⟩, ⟨rq HO_905001⟩, ⟨bk BK889⟩, ⟨bk BK890⟩, ⟨bk BK899⟩, ⟨bk BK904⟩, ⟨by exact qi HI893⟩, ⟨by exact qb HI893 HB⟩⟩
     ·rw [if_neg c83] at H
      have c83b0 : decide (0 < (x905001_1.length : Int)) = false := decide_eq_false c83
      have c83b1 : decide (0 < x905001_1.length) = false := decide_eq_false (by omega)
      clear c83
      (first | rw [c83b0] | (simp only [i64_w, i32_w]; rw [c83b0]) | skip)
      have H' := Aside0.mk H
      clear H
      have hnb91 := NB904_889.out
      have hnc91 := NB889_904.out
      have hnb92 := NB904_890.out
      have hnc92 := NB890_904.out
      have hnb93 := NB904_899.out
      have hnc93 := NB899_904.out
      have hnb94 := NB904_893.out
      have hnc94 := NB893_904.out
      obtain ⟨hcz95_0, hcz95_1, hfz95_0, hfz95_1⟩ := zc2 BK904
      go_wp2
      go_meet
      case rel => exact ⟨_, (false), (x894001_1), rs, H', ⟨by have := HK1.out; first | omega | exact Nat.le_refl _⟩, ⟨rq HO_900001⟩, ⟨rq HO_905001⟩, ⟨bk BK889⟩, ⟨bk BK890⟩, ⟨bk BK899⟩, ⟨bk BK904⟩, ⟨by exact qi HI893⟩, ⟨by exact qb HI893 HB⟩⟩
    case rest =>
     clear HC76
     try clear c23
     try clear c23b0
     try clear c47
     try clear c47b0
     try clear c47b1
     try clear c48
     try clear c49
     try clear c49b0
     try clear p50
     try clear q50
     try clear c83
     try clear c83b0
     try clear c83b1
     try clear hcz65_0
     try clear hcz65_1
     try clear hcz73_0
     try clear hcz73_1
     try clear hcz81_0
     try clear hcz81_1
     try clear hcz89_0
     try clear hcz89_1
     try clear hcz95_0
     try clear hcz95_1
     try clear hfz65_0
     try clear hfz65_1
     try clear hfz73_0
     try clear hfz73_1
     try clear hfz81_0
     try clear hfz81_1
     try clear hfz89_0
     try clear hfz89_1
     try clear hfz95_0
     try clear hfz95_1
     try clear hx50_0
     try clear hx50_1
     try clear hx50_2
     try clear hx50_3
     try clear hx50_4
     try clear hx50_5
     try clear hx911_0
     try clear hx911_1
     try clear hx911_2
     try clear hx911_3
     try clear hx911_4
     try clear hx911_5
     try clear hx912_0
     try clear hx912_1
     try clear hx912_2
     try clear hx912_3
     try clear hx912_4
     try clear hx912_5
     try clear hx913_0
     try clear hx913_1
     try clear hx913_2
     try clear hx913_3
     try clear hx913_4
     try clear hx913_5
     try clear p50
     try clear p911
     try clear p912
     try clear p913
     try clear q50
     try clear q911
     try clear q912
     try clear q913
     obtain ⟨kq, x86_75, x894001_75, rfl, HA, HJ75, HO_900001, HO_905001, BK889, BK890, BK899, BK904, HI893, HB⟩ := hcut
     cases kq with
     | zero => exact absurd HA.out (by simp [spec_DrawProbeSmaller.j1])
     | succ kj75 =>
      have H := HA.out
      clear HA
      simp only [spec_DrawProbeSmaller.j1] at H
      by_cases c96 : x86_75 = true
      ·subst c96
       replace H := it H rfl
       obtain ⟨⟨t917, t918⟩, A97, H⟩ := bo H
       try dsimp only at H
       obtain ⟨⟨t919, t920⟩, A98, H⟩ := bo H
       try dsimp only at H
       by_cases c99 : t919 = 0
       ·rw [if_pos c99] at H
        have c99b0 : (t919 == 0) = true := beq_iff_eq.mpr c99
        have c99b1 : (t919 != 0) = false := bne_eq_false_iff_eq.mpr c99
        clear c99
        by_cases c100 : 0 ≤ t917
        ·rw [if_pos c100] at H
         have c100b0 : decide (0 ≤ t917) = true := decide_eq_true c100
         clear c100
         by_cases c101 : t917 < (x905001_1.length : Int)
         ·rw [if_pos c101] at H
          have c101b0 : decide (t917 < (x905001_1.length : Int)) = true := decide_eq_true c101
          clear c101
          obtain ⟨y922, hy_⟩ : ∃ y_ : List (S26), y_ = (x905001_1.set (t917 : Int).toNat (⟨(rd_T26 x905001_1 t917).f0, (rd_T26 x905001_1 t917).f1, (rd_T26 x905001_1 t917).f2, (rd_T26 x905001_1 t917).f3, (rd_T26 x905001_1 t917).f4, wrap64 (((rd_T26 x905001_1 t917).f5) + 1)⟩ : S26)) := ⟨_, rfl⟩
          replace H : (some (t900, y922, t894, x900001_1)) = some (r1, r2, r3, r4) := yh
          have Ny922 := ra hy_
          clear hy_
          simp only [Option.some.injEq, Prod.mk.injEq] at H
          obtain ⟨rfl, rfl, rfl, rfl⟩ := H
          have hnb103 := NB904_889.out
          have hnc103 := NB889_904.out
          have hnb104 := NB904_890.out
          have hnc104 := NB890_904.out
          have hnb105 := NB904_899.out
          have hnc105 := NB899_904.out
          have hnb106 := NB904_893.out
          have hnc106 := NB893_904.out
          obtain ⟨hcz107_0, hcz107_1, hfz107_0, hfz107_1⟩ := zc2 BK904
          try go_wp2_with (first | ((with_reducible refine gate_callee (f := 65) rfl ?_); refine gl (some 91) Try.func65 #[.pointer (some ⟨g893, 0, none⟩), .int .i64 (x905001_1.length : Int)] ?_; (with_reducible refine (spec_l1Rd_pick.calls kj75 g893 t891 x894001_75 (x905001_1.length : Int) t917 t918 w _ ?side1 ?side2 A97.out).mono ?_); (case side1 => exact qi HI893); (case side2 => exact qb HI893 HB); rintro e w108 ⟨rfl, hi, hb, hk⟩; refine ⟨_, rfl, ?_⟩; have _ := ra (Kd.R_mono (Kd.R_keep (IsS90.apart (show IsS90 w _ g893 t891 x894001_75 from qi HI893) (rq HO_900001) (by decide)) hk (fun _ h => h.2)) (fun _ h => h.1)); have _ := ra (Kd.R_mono (Kd.R_keep (IsS90.apart (show IsS90 w _ g893 t891 x894001_75 from qi HI893) (rq HO_905001) (by decide)) hk (fun _ h => h.2)) (fun _ h => h.1)); have _ := kv hk (bk BK889) NB889_893; have _ := kv hk (bk BK890) NB890_893; have _ := kv hk (bk BK899) NB899_893; have _ := kv hk (bk BK904) NB904_893; have _ := ra (hb); have _ := ra (hi); clear HO_900001 HO_905001 BK889 BK890 BK899 BK904 HB HI893; rename_i HO_900001 HO_905001 BK889 BK890 BK899 BK904 HB HI893; (try clear hb); (try clear hb2); (try clear hk); (try clear hi)) | ((with_reducible refine gate_callee (f := 65) rfl ?_); refine gl (some 93) Try.func65 #[.pointer (some ⟨g893, 0, none⟩), .int .i64 3] ?_; (with_reducible refine (spec_l1Rd_pick.calls kj75 g893 t891 t918 3 t919 t920 w _ ?side1 ?side2 A98.out).mono ?_); (case side1 => exact qi HI893); (case side2 => exact qb HI893 HB); rintro e w109 ⟨rfl, hi, hb, hk⟩; refine ⟨_, rfl, ?_⟩; have _ := ra (Kd.R_mono (Kd.R_keep (IsS90.apart (show IsS90 w _ g893 t891 t918 from qi HI893) (rq HO_900001) (by decide)) hk (fun _ h => h.2)) (fun _ h => h.1)); have _ := ra (Kd.R_mono (Kd.R_keep (IsS90.apart (show IsS90 w _ g893 t891 t918 from qi HI893) (rq HO_905001) (by decide)) hk (fun _ h => h.2)) (fun _ h => h.1)); have _ := kv hk (bk BK889) NB889_893; have _ := kv hk (bk BK890) NB890_893; have _ := kv hk (bk BK899) NB899_893; have _ := kv hk (bk BK904) NB904_893; have _ := ra (hb); have _ := ra (hi); clear HO_900001 HO_905001 BK889 BK890 BK899 BK904 HB HI893; rename_i HO_900001 HO_905001 BK889 BK890 BK899 BK904 HB HI893; (try clear hb); (try clear hb2); (try clear hk); (try clear hi)))
          have _ := ra (Kd.R_drew HO_900001.out)
          have _ := ra (Kd.R_drew HO_905001.out)
          have _ := ra (blk_drew BK889.out)
          have _ := ra (blk_drew BK890.out)
          have _ := ra (blk_drew BK899.out)
          have _ := ra (blk_drew BK904.out)
          have _ := ra (IsS90.drew HI893.out)
          have _ := ra (below_drew1 HB.out)
          clear HO_900001 HO_905001 BK889 BK890 BK899 BK904 HI893 HB
          rename_i HO_900001 HO_905001 BK889 BK890 BK899 BK904 HI893 HB
          have p921 : 0 ≤ (t917 : Int) := od
          have q921 : t917 < (x905001_1.length : Int) := od
          obtain ⟨ad921, e921, hx921_0, hx921_1, hx921_2, hx921_3, hx921_4, hx921_5⟩ := at_T26 (Kd.R_reads' HO_905001.out).2.2 t917 p921 q921
          cases e921
          replace p921 := eq_true p921
          replace q921 := eq_true q921
          have p102 : 0 ≤ (t917 : Int) := od
          have q102 : (t917 : Int) < ((x905001_1.length : Int) : Int) := od
          obtain ⟨go102, co102, eo102, gb102, gl102, cl102, HG102⟩ := Kd.R_form HO_905001.out (by omega)
          (first | cases eo102 | (injection eo102 with ea_ en_ ec_; (first | subst ea_ | (injection ea_ with ea_; subst ea_)); subst ec_; clear en_))
          have GB102 := Aside0.mk gb102
          have GG102 := Aside0.mk HG102
          clear gb102 gl102 HG102
          (first | simp only [add_plain] at hx921_0 | skip)
          (first | simp only [add_plain] at hx921_1 | skip)
          (first | simp only [add_plain] at hx921_2 | skip)
          (first | simp only [add_plain] at hx921_3 | skip)
          (first | simp only [add_plain] at hx921_4 | skip)
          (first | simp only [add_plain] at hx921_5 | skip)
          obtain ⟨ce102, hcl102, hM102, hcc102, hfr102⟩ := Kd.R_elem HO_905001.out z26 (t917 : Int) p102 q102
          obtain rfl := k26_openM hM102
          have hx102_0 : World.cell? _ ⟨go102, (t917 : Int).toNat * 6, none⟩ = some (.int .i64 ((rd_T26 x905001_1 t917).f0)) := hcc102 0 _ rfl
          have hx102_1 : World.cell? _ ⟨go102, (t917 : Int).toNat * 6 + 1, none⟩ = some (.int .i64 ((rd_T26 x905001_1 t917).f1)) := hcc102 1 _ rfl
          have hx102_2 : World.cell? _ ⟨go102, (t917 : Int).toNat * 6 + 2, none⟩ = some (.int .i64 ((rd_T26 x905001_1 t917).f2)) := hcc102 2 _ rfl
          have hx102_3 : World.cell? _ ⟨go102, (t917 : Int).toNat * 6 + 3, none⟩ = some (.int .i64 ((rd_T26 x905001_1 t917).f3)) := hcc102 3 _ rfl
          have hx102_4 : World.cell? _ ⟨go102, (t917 : Int).toNat * 6 + 4, none⟩ = some (.int .i64 ((rd_T26 x905001_1 t917).f4)) := hcc102 4 _ rfl
          have hx102_5 : World.cell? _ ⟨go102, (t917 : Int).toNat * 6 + 5, none⟩ = some (.int .i64 ((rd_T26 x905001_1 t917).f5)) := hcc102 5 _ rfl
          have hf102_0 : World.frozen? _ ⟨go102, (t917 : Int).toNat * 6, none⟩ = false := hfr102 0
          have hf102_1 : World.frozen? _ ⟨go102, (t917 : Int).toNat * 6 + 1, none⟩ = false := hfr102 1
          have hf102_2 : World.frozen? _ ⟨go102, (t917 : Int).toNat * 6 + 2, none⟩ = false := hfr102 2
          have hf102_3 : World.frozen? _ ⟨go102, (t917 : Int).toNat * 6 + 3, none⟩ = false := hfr102 3
          have hf102_4 : World.frozen? _ ⟨go102, (t917 : Int).toNat * 6 + 4, none⟩ = false := hfr102 4
          have hf102_5 : World.frozen? _ ⟨go102, (t917 : Int).toNat * 6 + 5, none⟩ = false := hfr102 5
          clear hcl102 hcc102 hfr102 hM102
          replace p102 := eq_true p102
          replace q102 := eq_true q102
          have HN893_go102 := ra (show g893 ≠ go102 from by have h_ := IsS90.own_ne HI893.out HO_905001.out (by decide); intro e_; exact h_ (by rw [e_]; rfl))
          obtain ⟨ce111, hcl111, hM111, hcc111, hfr111⟩ := Kd.R_elem HO_905001.out z26 (t917 : Int) (od) (by have h_ : (t917 : Int) < ((x905001_1.length : Int) : Int) := od; first | exact h_ | (have e_ := (Kd.R_reads' HO_905001.out).1; omega) | simpa using h_)
          obtain rfl := k26_openM hM111
          have HP111 := (Kd.R_seg HO_905001.out (t917 : Int) (od) (by have h_ : (t917 : Int) < ((x905001_1.length : Int) : Int) := od; first | exact h_ | (have e_ := (Kd.R_reads' HO_905001.out).1; omega) | simpa using h_) (seg := [.int .i64 (wrap64 (((rd_T26 x905001_1 t917).f5) + 1))]) (j := 5) hcl111 hcc111 (show 6 ≤ 6 from by decide) (x' := (⟨(rd_T26 x905001_1 t917).f0, (rd_T26 x905001_1 t917).f1, (rd_T26 x905001_1 t917).f2, (rd_T26 x905001_1 t917).f3, (rd_T26 x905001_1 t917).f4, wrap64 (((rd_T26 x905001_1 t917).f5) + 1)⟩ : S26)) (k26_mkM _ _ _ (⟨(rd_T26 x905001_1 t917).f0, (rd_T26 x905001_1 t917).f1, (rd_T26 x905001_1 t917).f2, (rd_T26 x905001_1 t917).f3, (rd_T26 x905001_1 t917).f4, wrap64 (((rd_T26 x905001_1 t917).f5) + 1)⟩ : S26) ) (fun _ hk => hk)).1
          rw [← Ny922.out] at HP111
          have HQ111 := Aside0.mk HP111
          clear hcl111 hcc111 hfr111 hM111 HP111
          refine start_ (n := 13) (S := fun w' => w'.cell? ⟨gb904, 0, none⟩ = some (.string t900) ∧ w'.cell? ⟨gb904, 1, none⟩ = some (.slice (some ⟨go102, 0, none⟩) x905001_1.length co82) ∧ w'.cell? ⟨go102, ((t917).toNat * 6), none⟩ = some (.int .i64 ((rd_T26 x905001_1 t917).f0)) ∧ w'.cell? ⟨go102, ((t917).toNat * 6) + 1, none⟩ = some (.int .i64 ((rd_T26 x905001_1 t917).f1)) ∧ w'.cell? ⟨go102, ((t917).toNat * 6) + 2, none⟩ = some (.int .i64 ((rd_T26 x905001_1 t917).f2)) ∧ w'.cell? ⟨go102, ((t917).toNat * 6) + 3, none⟩ = some (.int .i64 ((rd_T26 x905001_1 t917).f3)) ∧ w'.cell? ⟨go102, ((t917).toNat * 6) + 4, none⟩ = some (.int .i64 ((rd_T26 x905001_1 t917).f4)) ∧ w'.cell? ⟨go102, ((t917).toNat * 6) + 5, none⟩ = some (.int .i64 ((rd_T26 x905001_1 t917).f5))) (ds := [12]) #[false, false, false, false, false, false, false, false, false, false, false, false, false] (by kernel_rfl) rfl rfl ⟨(blk_cell BK904.out 0).trans rfl, (blk_cell BK904.out 1).trans rfl, hx921_0, hx921_1, hx921_2, hx921_3, hx921_4, hx921_5⟩ (fun hHeld => ?_); refine with_tabW spec_DrawProbeSmaller.tab19 spec_DrawProbeSmaller.bits19 (fun HT_ HW_ => ?_)
          generalize w109.drew = w110 at HO_900001 HO_905001 BK889 BK890 BK899 BK904 HI893 HB GG102 HQ111 hf102_0 hf102_1 hf102_2 hf102_3 hf102_4 hf102_5 hx102_0 hx102_1 hx102_2 hx102_3 hx102_4 hx102_5 hx921_0 hx921_1 hx921_2 hx921_3 hx921_4 hx921_5 hHeld ⊢
          refine pu 0 102 (bl 13 1) ?_
          refine pu 2 104 (bl 13 5) ?_
          refine pu 3 105 (bl 13 13) ?_
          refine pu 5 107 (bl 13 45) ?_
          refine tk 1 103 (bl 13 47) ?_ hHeld
          refine tk 4 106 (bl 13 63) ?_ hHeld
          refine pu 6 108 (bl 13 127) ?_
          refine pu 7 109 (bl 13 255) ?_
          refine tk 8 110 (bl 13 511) ?_ hHeld
          refine pu 9 111 (bl 13 1023) ?_
          refine pu 10 112 (bl 13 2047) ?_
          refine pu 11 113 (bl 13 4095) ?_
          refine last_ (i := 12) (N := none) #[true, true, true, true, true, true, true, true, true, true, true, true, true] rfl rfl (one_of HT_.out (by kernel_rfl)) (by decide) (fun K hK => ?_)
          refine skip_ (w1 := ?_) (by rfl) rfl ?_ ?_
          rotate_left
          ·go_simp
           rfl
          refine hK.out _ _ ?_
          clear hK K
          refine done_ (done_of HT_.out (by kernel_rfl)) ?_
          have n0 : Aside0 (Kd.R k26 26 (w110.setCell ⟨go102, (t917 : Int).toNat * 6 + 5, none⟩ (.int .i64 (wrap64 (((rd_T26 x905001_1 t917).f5) + 1)))) w.heap.size (fun k_ => some k_ ≠ (.slice (some ⟨go102, 0, none⟩) x905001_1.length co82 : Value).ownBlock) u900001 x900001_1) := ⟨by (with_reducible repeat (first | apply Kd.R_alloc | apply Kd.R_drewN | apply Kd.R_drew)); exact Kd.R_mono (rf (Kd.R_mono HO_900001.out (fun k_ hk => (⟨hk, fun e_ => hk (by rw [e_]; rfl)⟩ : _ ∧ k_ ≠ go102)))) (fun _ hk => hk.1)⟩
          have n1 : Aside0 (Kd.R k26 26 (w110.setCell ⟨go102, (t917 : Int).toNat * 6 + 5, none⟩ (.int .i64 (wrap64 (((rd_T26 x905001_1 t917).f5) + 1)))) w.heap.size (fun k_ => some k_ ≠ (u900001 : Value).ownBlock) (.slice (some ⟨go102, 0, none⟩) x905001_1.length co82) y922) := ⟨by (with_reducible repeat (first | apply Kd.R_alloc | apply Kd.R_drewN | apply Kd.R_drew)); exact HQ111.out⟩
          have n2 : Aside0 ((w110.setCell ⟨go102, (t917 : Int).toNat * 6 + 5, none⟩ (.int .i64 (wrap64 (((rd_T26 x905001_1 t917).f5) + 1)))).heap[gb889]? = some (.cells #[.string (⟨#[]⟩ : ByteArray), .slice none 0 0] 39 (0, 0))) := ⟨by (with_reducible repeat (first | refine blk_drewN ?_ _ | refine blk_drew ?_ | refine blk_alloc ?_ _)); refine blk_far ?_ (by have h_ := Kd.R_ne HO_905001.out BK889.out (by decide); intro e_; exact h_ (by rw [e_]; rfl)) _; (with_reducible repeat (first | refine blk_drewN ?_ _ | refine blk_drew ?_ | refine blk_alloc ?_ _)); exact BK889.out⟩
          have n3 : Aside0 ((w110.setCell ⟨go102, (t917 : Int).toNat * 6 + 5, none⟩ (.int .i64 (wrap64 (((rd_T26 x905001_1 t917).f5) + 1)))).heap[gb890]? = some (.cells #[.string (⟨#[]⟩ : ByteArray), .slice none 0 0] 39 (0, 0))) := ⟨by (with_reducible repeat (first | refine blk_drewN ?_ _ | refine blk_drew ?_ | refine blk_alloc ?_ _)); refine blk_far ?_ (by have h_ := Kd.R_ne HO_905001.out BK890.out (by decide); intro e_; exact h_ (by rw [e_]; rfl)) _; (with_reducible repeat (first | refine blk_drewN ?_ _ | refine blk_drew ?_ | refine blk_alloc ?_ _)); exact BK890.out⟩
          have n4 : Aside0 ((w110.setCell ⟨go102, (t917 : Int).toNat * 6 + 5, none⟩ (.int .i64 (wrap64 (((rd_T26 x905001_1 t917).f5) + 1)))).heap[gb899]? = some (.cells #[.string t894, u900001] 39 (0, 0))) := ⟨by (with_reducible repeat (first | refine blk_drewN ?_ _ | refine blk_drew ?_ | refine blk_alloc ?_ _)); refine blk_far ?_ (by have h_ := Kd.R_ne HO_905001.out BK899.out (by decide); intro e_; exact h_ (by rw [e_]; rfl)) _; (with_reducible repeat (first | refine blk_drewN ?_ _ | refine blk_drew ?_ | refine blk_alloc ?_ _)); exact BK899.out⟩
          have n5 : Aside0 ((w110.setCell ⟨go102, (t917 : Int).toNat * 6 + 5, none⟩ (.int .i64 (wrap64 (((rd_T26 x905001_1 t917).f5) + 1)))).heap[gb904]? = some (.cells #[.string t900, .slice (some ⟨go102, 0, none⟩) x905001_1.length co82] 39 (0, 0))) := ⟨by (with_reducible repeat (first | refine blk_drewN ?_ _ | refine blk_drew ?_ | refine blk_alloc ?_ _)); refine blk_far ?_ (by have h_ := Kd.R_ne HO_905001.out BK904.out (by decide); intro e_; exact h_ (by rw [e_]; rfl)) _; (with_reducible repeat (first | refine blk_drewN ?_ _ | refine blk_drew ?_ | refine blk_alloc ?_ _)); exact BK904.out⟩
          have n6 : Aside0 (IsS90 w (w110.setCell ⟨go102, (t917 : Int).toNat * 6 + 5, none⟩ (.int .i64 (wrap64 (((rd_T26 x905001_1 t917).f5) + 1)))) g893 t891 t920) := ⟨by repeat (first | (with_reducible first | exact HI893.out | apply IsS90.alloc | apply IsS90.drewN | apply IsS90.drew | apply IsS90.set_1 | refine IsS90.far ?_ HN893_go102.out _ | refine IsS90.far ?_ NB893_889.out _ | refine IsS90.far ?_ NB893_890.out _ | refine IsS90.far ?_ NB893_899.out _ | refine IsS90.far ?_ NB893_904.out _) | exact HI893.out)⟩
          have n7 : Aside0 (Below w.heap.size w (w110.setCell ⟨go102, (t917 : Int).toNat * 6 + 5, none⟩ (.int .i64 (wrap64 (((rd_T26 x905001_1 t917).f5) + 1))))) := ⟨by repeat (first | (with_reducible first | exact HB.out | apply below_alloc | apply pw_below_drewN | apply below_drew1 | refine below_set ?_ GB102.out | refine below_set ?_ (IsS90.ge HI893.out) | refine below_set ?_ GE889.out | refine below_set ?_ GE890.out | refine below_set ?_ GE899.out | refine below_set ?_ GE904.out) | exact HB.out)⟩
          (try clear HO_900001)
          (try clear HO_905001)
          (try clear BK889)
          (try clear BK890)
          (try clear BK899)
          (try clear BK904)
          (try clear HI893)
          (try clear HB)
          generalize (w110.setCell ⟨go102, (t917 : Int).toNat * 6 + 5, none⟩ (.int .i64 (wrap64 (((rd_T26 x905001_1 t917).f5) + 1)))) = w112 at n0 n1 n2 n3 n4 n5 n6 n7 ⊢
          have HO_900001 := n0
          have HO_905001 := n1
          have BK889 := n2
          have BK890 := n3
          have BK899 := n4
          have BK904 := n5
          have HI893 := n6
          have HB := n7
          clear n0 n1 n2 n3 n4 n5 n6 n7
          try go_wp2
          have _ := ra (Kd.R_drew HO_900001.out)
          have _ := ra (Kd.R_drew HO_905001.out)
          have _ := ra (blk_drew BK889.out)
          have _ := ra (blk_drew BK890.out)
          have _ := ra (blk_drew BK899.out)
          have _ := ra (blk_drew BK904.out)
          have _ := ra (IsS90.drew HI893.out)
          have _ := ra (below_drew1 HB.out)
          clear HO_900001 HO_905001 BK889 BK890 BK899 BK904 HI893 HB
          rename_i HO_900001 HO_905001 BK889 BK890 BK899 BK904 HI893 HB
          obtain ⟨Ao117, co117, eo117⟩ := Kd.R_slice HO_900001.out
          (first | subst eo117 | (injection eo117 with f1_ f2_ f3_; have f4_ := f1_.symm; have f5_ := f3_.symm; clear f1_ f2_ f3_; subst f4_; subst f5_))
          refine start_ (n := 4) (S := fun w' => w'.cell? ⟨gb904, 0, none⟩ = some (.string t900) ∧ w'.cell? ⟨gb904, 1, none⟩ = some (.slice (some ⟨go102, 0, none⟩) x905001_1.length co82) ∧ w'.cell? ⟨gb899, 0, none⟩ = some (.string t894) ∧ w'.cell? ⟨gb899, 1, none⟩ = some (.slice Ao117 x900001_1.length co117)) (ds := []) (bl 4 0) (by kernel_rfl) rfl rfl ⟨(blk_cell BK904.out 0).trans rfl, (blk_cell BK904.out 1).trans rfl, (blk_cell BK899.out 0).trans rfl, (blk_cell BK899.out 1).trans rfl⟩ (fun hHeld => ?_)
          generalize w112.drew = w113 at HO_900001 HO_905001 BK889 BK890 BK899 BK904 HI893 HB hHeld ⊢
          refine tk 0 129 (bl 4 1) ?_ hHeld
          refine tk 1 130 (bl 4 3) ?_ hHeld
          refine one_ (i := 2) (N := none) #[true, true, true, false] rfl rfl (by kernel_rfl) (by decide) (fun K hK => ?_)
          have hs114 : w113.cell? ⟨gb889, 0, none⟩ = some (.string (⟨#[]⟩ : ByteArray)) := (blk_cell BK889.out 0).trans rfl
          have hfs114 := blk_frozen BK889.out 0
          have hns114_1 := NB890_889.out
          have hns114_2 := NB899_889.out
          have hns114_3 := NB904_889.out
          have hms114_1 := NB889_890.out
          have hms114_2 := NB889_899.out
          have hms114_3 := NB889_904.out
          have hs115 : w113.cell? ⟨gb889, 1, none⟩ = some (.slice none 0 0) := (blk_cell BK889.out 1).trans rfl
          have hfs115 := blk_frozen BK889.out 1
          have hns115_1 := NB890_889.out
          have hns115_2 := NB899_889.out
          have hns115_3 := NB904_889.out
          have hms115_1 := NB889_890.out
          have hms115_2 := NB889_899.out
          have hms115_3 := NB889_904.out
          refine skip_ (w1 := ?_) (by rfl) rfl ?_ ?_
          rotate_left
          ·go_simp
           rfl
          refine hK.out _ _ ⟨((cell_far (p := ⟨gb889, _, none⟩) NB904_889.out _).trans (((cell_far (p := ⟨gb889, _, none⟩) NB904_889.out _).trans (hHeld.1)))), ((cell_far (p := ⟨gb889, _, none⟩) NB904_889.out _).trans (((cell_far (p := ⟨gb889, _, none⟩) NB904_889.out _).trans (hHeld.2.1)))), ((cell_far (p := ⟨gb889, _, none⟩) NB899_889.out _).trans (((cell_far (p := ⟨gb889, _, none⟩) NB899_889.out _).trans (hHeld.2.2.1)))), ((cell_far (p := ⟨gb889, _, none⟩) NB899_889.out _).trans (((cell_far (p := ⟨gb889, _, none⟩) NB899_889.out _).trans (hHeld.2.2.2))))⟩ (fun hHeld => ?_)
          clear hK K
          refine one_ (i := 3) (N := none) #[true, true, true, true] rfl rfl (by kernel_rfl) (by decide) (fun K hK => ?_)
          have hs116 : w113.cell? ⟨gb890, 0, none⟩ = some (.string (⟨#[]⟩ : ByteArray)) := (blk_cell BK890.out 0).trans rfl
          have hfs116 := blk_frozen BK890.out 0
          have hns116_0 := NB889_890.out
          have hns116_2 := NB899_890.out
          have hns116_3 := NB904_890.out
          have hms116_0 := NB890_889.out
          have hms116_2 := NB890_899.out
          have hms116_3 := NB890_904.out
          have hs118 : w113.cell? ⟨gb890, 1, none⟩ = some (.slice none 0 0) := (blk_cell BK890.out 1).trans rfl
          have hfs118 := blk_frozen BK890.out 1
          have hns118_0 := NB889_890.out
          have hns118_2 := NB899_890.out
          have hns118_3 := NB904_890.out
          have hms118_0 := NB890_889.out
          have hms118_2 := NB890_899.out
          have hms118_3 := NB890_904.out
          refine skip_ (w1 := ?_) (by rfl) rfl ?_ ?_
          rotate_left
          ·go_simp
           rfl
          refine hK.out _ _ ⟨((cell_far (p := ⟨gb890, _, none⟩) NB904_890.out _).trans (((cell_far (p := ⟨gb890, _, none⟩) NB904_890.out _).trans (hHeld.1)))), ((cell_far (p := ⟨gb890, _, none⟩) NB904_890.out _).trans (((cell_far (p := ⟨gb890, _, none⟩) NB904_890.out _).trans (hHeld.2.1)))), ((cell_far (p := ⟨gb890, _, none⟩) NB899_890.out _).trans (((cell_far (p := ⟨gb890, _, none⟩) NB899_890.out _).trans (hHeld.2.2.1)))), ((cell_far (p := ⟨gb890, _, none⟩) NB899_890.out _).trans (((cell_far (p := ⟨gb890, _, none⟩) NB899_890.out _).trans (hHeld.2.2.2))))⟩ (fun hHeld => ?_)
          clear hK K
          refine done_ (by kernel_rfl) ?_
          try go_wp2
          refine bodyPost_ret (results_cc rfl _ _ gb889 gb890 39 39 #[.string t900, .slice (some ⟨go102, 0, none⟩) x905001_1.length co82] #[.string t894, .slice Ao117 x900001_1.length co117] (0, 0) (0, 0) _ _ rfl (bp BK889) Try.underlying39 rfl (by kernel_rfl) rfl (bp BK890) Try.underlying39 rfl (by kernel_rfl)) rfl ?_
          exact ⟨_, _, re, by (with_reducible repeat (first | apply Kd.R_alloc | apply Kd.R_drewN | apply Kd.R_drew)); exact Kd.R_mono (rf (Kd.R_types (Kd.R_types HO_905001.out BK889.out (by decide)) BK890.out (by decide))) (fun _ hk => hk.1.1), by (with_reducible repeat (first | apply Kd.R_alloc | apply Kd.R_drewN | apply Kd.R_drew)); exact Kd.R_mono (rf (Kd.R_types (Kd.R_types HO_900001.out BK889.out (by decide)) BK890.out (by decide))) (fun _ hk => hk.1.1), by exact qb HI893 HB⟩
         ·rw [if_neg c101] at H
          exact absurd H (by simp)
        ·rw [if_neg c100] at H
         exact absurd H (by simp)
       ·rw [if_neg c99] at H
        have c99b0 : (t919 == 0) = false := beq_eq_false_iff_ne.mpr c99
        have c99b1 : (t919 != 0) = true := bne_iff_ne.mpr c99
        by_cases c119 : t919 = 1
        ·rw [if_pos c119] at H
         have c119b0 : (t919 == 1) = true := beq_iff_eq.mpr c119
         have c119b1 : (t919 != 1) = false := bne_eq_false_iff_eq.mpr c119
         clear c119
         obtain ⟨y923, hy_⟩ : ∃ y_ : List (S26), y_ = (([] : List (S26))) := ⟨_, rfl⟩
         replace H : (if 0 ≤ t917 then (if t917 ≤ (x900001_1.length : Int) then ((some (x900001_1.take (t917 : Int).toNat : List (S26))).bind fun y926 => (if y923.length + y926.length < 2932031007402 then ((some (y923 ++ y926 : List (S26))).bind fun y930 => (if 0 ≤ (wrap64 (t917 + 1)) then (if (wrap64 (t917 + 1)) ≤ (x900001_1.length : Int) then ((some (x900001_1.drop ((wrap64 (t917 + 1)) : Int).toNat : List (S26))).bind fun y933 => (if y930.length + y933.length < 2932031007402 then (some (t900, x905001_1, t894, (y930 ++ y933))) else (none))) else (none)) else (none))) else (none))) else (none)) else (none)) = some (r1, r2, r3, r4) := yh
         have Ny923 := ra hy_
         clear hy_
         by_cases c120 : 0 ≤ t917
         ·rw [if_pos c120] at H
          have c120b0 := eq_true c120
          have c120b1 : decide (0 ≤ t917) = true := decide_eq_true c120
          clear c120
          by_cases c121 : t917 ≤ (x900001_1.length : Int)
          ·rw [if_pos c121] at H
           have c121b0 := eq_true c121
           have c121b1 : decide (t917 ≤ (x900001_1.length : Int)) = true := decide_eq_true c121
           clear c121
           obtain ⟨y926, hy_⟩ : ∃ y_ : List (S26), y_ = (x900001_1.take (t917 : Int).toNat) := ⟨_, rfl⟩
           replace H : (if y923.length + y926.length < 2932031007402 then ((some (y923 ++ y926 : List (S26))).bind fun y930 => (if 0 ≤ (wrap64 (t917 + 1)) then (if (wrap64 (t917 + 1)) ≤ (x900001_1.length : Int) then ((some (x900001_1.drop ((wrap64 (t917 + 1)) : Int).toNat : List (S26))).bind fun y933 => (if y930.length + y933.length < 2932031007402 then (some (t900, x905001_1, t894, (y930 ++ y933))) else (none))) else (none)) else (none))) else (none)) = some (r1, r2, r3, r4) := yh
           have Ny926 := ra hy_
           clear hy_
           by_cases c122 : y923.length + y926.length < 2932031007402
           ·rw [if_pos c122] at H
            have LMc122 := Aside0.mk c122
            clear c122
            obtain ⟨y930, hy_⟩ : ∃ y_ : List (S26), y_ = (y923 ++ y926) := ⟨_, rfl⟩
            replace H : (if 0 ≤ (wrap64 (t917 + 1)) then (if (wrap64 (t917 + 1)) ≤ (x900001_1.length : Int) then ((some (x900001_1.drop ((wrap64 (t917 + 1)) : Int).toNat : List (S26))).bind fun y933 => (if y930.length + y933.length < 2932031007402 then (some (t900, x905001_1, t894, (y930 ++ y933))) else (none))) else (none)) else (none)) = some (r1, r2, r3, r4) := yh
            have Ny930 := ra hy_
            clear hy_
            obtain ⟨ji123, hji123⟩ : ∃ j_ : Int, (wrap64 (t917 + 1)) = j_ := ⟨_, rfl⟩
            replace H : (if 0 ≤ (ji123) then (if (ji123) ≤ (x900001_1.length : Int) then ((some (x900001_1.drop ((ji123) : Int).toNat : List (S26))).bind fun y933 => (if y930.length + y933.length < 2932031007402 then (some (t900, x905001_1, t894, (y930 ++ y933))) else (none))) else (none)) else (none)) = some (r1, r2, r3, r4) := by first | (rw [hji123] at H; exact H) | (simp only [hji123] at H ⊢; exact H)
            (try rw [hji123] at A97)
            (try rw [hji123] at A98)
            have hji123w : (IntKind.i64.wrap (t917 + 1)) = ji123 := (i64_w _).trans hji123
            by_cases c124 : 0 ≤ (ji123)
            ·rw [if_pos c124] at H
             have c124b0 := eq_true c124
             have c124b1 : decide (0 ≤ (ji123)) = true := decide_eq_true c124
             clear c124
             by_cases c125 : (ji123) ≤ (x900001_1.length : Int)
             ·rw [if_pos c125] at H
              have c125b0 := eq_true c125
              have c125b1 : decide ((ji123) ≤ (x900001_1.length : Int)) = true := decide_eq_true c125
              clear c125
              obtain ⟨y933, hy_⟩ : ∃ y_ : List (S26), y_ = (x900001_1.drop ((ji123) : Int).toNat) := ⟨_, rfl⟩
              replace H : (if y930.length + y933.length < 2932031007402 then (some (t900, x905001_1, t894, (y930 ++ y933))) else (none)) = some (r1, r2, r3, r4) := yh
              have Ny933 := ra hy_
              clear hy_
              by_cases c126 : y930.length + y933.length < 2932031007402
              ·rw [if_pos c126] at H
               have LMc126 := Aside0.mk c126
               clear c126
               obtain ⟨y937, hy_⟩ : ∃ y_ : List (S26), y_ = (y930 ++ y933) := ⟨_, rfl⟩
               replace H : (some (t900, x905001_1, t894, y937)) = some (r1, r2, r3, r4) := yh
               have Ny937 := ra hy_
               clear hy_
               simp only [Option.some.injEq, Prod.mk.injEq] at H
               obtain ⟨rfl, rfl, rfl, rfl⟩ := H
               have hnb127 := NB904_889.out
               have hnc127 := NB889_904.out
               have hnb128 := NB904_890.out
               have hnc128 := NB890_904.out
               have hnb129 := NB904_899.out
               have hnc129 := NB899_904.out
               have hnb130 := NB904_893.out
               have hnc130 := NB893_904.out
               obtain ⟨hcz131_0, hcz131_1, hfz131_0, hfz131_1⟩ := zc2 BK904
               try go_wp2_with (first | ((with_reducible refine gate_callee (f := 65) rfl ?_); refine gl (some 91) Try.func65 #[.pointer (some ⟨g893, 0, none⟩), .int .i64 (x905001_1.length : Int)] ?_; (with_reducible refine (spec_l1Rd_pick.calls kj75 g893 t891 x894001_75 (x905001_1.length : Int) t917 t918 w _ ?side1 ?side2 A97.out).mono ?_); (case side1 => exact qi HI893); (case side2 => exact qb HI893 HB); rintro e w132 ⟨rfl, hi, hb, hk⟩; refine ⟨_, rfl, ?_⟩; have _ := ra (Kd.R_mono (Kd.R_keep (IsS90.apart (show IsS90 w _ g893 t891 x894001_75 from qi HI893) (rq HO_900001) (by decide)) hk (fun _ h => h.2)) (fun _ h => h.1)); have _ := ra (Kd.R_mono (Kd.R_keep (IsS90.apart (show IsS90 w _ g893 t891 x894001_75 from qi HI893) (rq HO_905001) (by decide)) hk (fun _ h => h.2)) (fun _ h => h.1)); have _ := kv hk (bk BK889) NB889_893; have _ := kv hk (bk BK890) NB890_893; have _ := kv hk (bk BK899) NB899_893; have _ := kv hk (bk BK904) NB904_893; have _ := ra (hb); have _ := ra (hi); clear HO_900001 HO_905001 BK889 BK890 BK899 BK904 HB HI893; rename_i HO_900001 HO_905001 BK889 BK890 BK899 BK904 HB HI893; (try clear hb); (try clear hb2); (try clear hk); (try clear hi)) | ((with_reducible refine gate_callee (f := 65) rfl ?_); refine gl (some 93) Try.func65 #[.pointer (some ⟨g893, 0, none⟩), .int .i64 3] ?_; (with_reducible refine (spec_l1Rd_pick.calls kj75 g893 t891 t918 3 t919 t920 w _ ?side1 ?side2 A98.out).mono ?_); (case side1 => exact qi HI893); (case side2 => exact qb HI893 HB); rintro e w133 ⟨rfl, hi, hb, hk⟩; refine ⟨_, rfl, ?_⟩; have _ := ra (Kd.R_mono (Kd.R_keep (IsS90.apart (show IsS90 w _ g893 t891 t918 from qi HI893) (rq HO_900001) (by decide)) hk (fun _ h => h.2)) (fun _ h => h.1)); have _ := ra (Kd.R_mono (Kd.R_keep (IsS90.apart (show IsS90 w _ g893 t891 t918 from qi HI893) (rq HO_905001) (by decide)) hk (fun _ h => h.2)) (fun _ h => h.1)); have _ := kv hk (bk BK889) NB889_893; have _ := kv hk (bk BK890) NB890_893; have _ := kv hk (bk BK899) NB899_893; have _ := kv hk (bk BK904) NB904_893; have _ := ra (hb); have _ := ra (hi); clear HO_900001 HO_905001 BK889 BK890 BK899 BK904 HB HI893; rename_i HO_900001 HO_905001 BK889 BK890 BK899 BK904 HB HI893; (try clear hb); (try clear hb2); (try clear hk); (try clear hi)))
               have _ := ra (Kd.R_drew HO_900001.out)
               have _ := ra (Kd.R_drew HO_905001.out)
               have _ := ra (blk_drew BK889.out)
               have _ := ra (blk_drew BK890.out)
               have _ := ra (blk_drew BK899.out)
               have _ := ra (blk_drew BK904.out)
               have _ := ra (IsS90.drew HI893.out)
               have _ := ra (below_drew1 HB.out)
               clear HO_900001 HO_905001 BK889 BK890 BK899 BK904 HI893 HB
               rename_i HO_900001 HO_905001 BK889 BK890 BK899 BK904 HI893 HB
               obtain ⟨Ao136, co136, eo136⟩ := Kd.R_slice HO_900001.out
               (first | subst eo136 | (injection eo136 with f1_ f2_ f3_; have f4_ := f1_.symm; have f5_ := f3_.symm; clear f1_ f2_ f3_; subst f4_; subst f5_))
               have q135 : (t917 : Int) ≤ ((x900001_1.length : Int) : Int) := od
               obtain ⟨i0135, hi0135, _, hsz135, _⟩ := info_parts info26
               have hroom135 : x900001_1.length ≤ co136 := (Kd.R_reads' HO_900001.out).2.1
               have hC135 : Kd.C k26 _ Ao136 x900001_1.length x900001_1 := (Kd.R_reads' HO_900001.out).2.2
               have hcut135 := cut_to (P := Try.prog) 37 26 .i64 Try.underlying37 hi0135 Ao136 x900001_1.length co136 t917 (od) q135 hroom135
               have hr135 := Kd.C_take (m := (t917 : Int).toNat) hC135 (by omega)
               have hy135 : y926.length = (t917 : Int).toNat := (by rw [Ny926.out, List.length_take]; omega)
               rw [← Ny926.out] at hr135
               rw [← hy135] at hcut135
               have HR929 := Aside0.mk hr135
               have HC929 := ra (show y926.length ≤ co136 from by omega)
               clear hr135 hC135 hroom135 hi0135 hsz135
               have KY135 := Aside0.mk hy135
               clear hy135
               have KL135 := ra (show (t917 : Int).toNat ≤ x900001_1.length from by omega)
               replace q135 := eq_true q135
               have q137 : ((ji123) : Int) ≤ ((x900001_1.length : Int) : Int) := od
               obtain ⟨i0137, hi0137, _, hsz137, _⟩ := info_parts info26
               have hroom137 : x900001_1.length ≤ co136 := (Kd.R_reads' HO_900001.out).2.1
               have hC137 : Kd.C k26 _ Ao136 x900001_1.length x900001_1 := (Kd.R_reads' HO_900001.out).2.2
               have q0137 : (0 : Int) ≤ ((ji123) : Int) := od
               have hcut137 := cut_from (P := Try.prog) 37 26 .i64 Try.underlying37 hi0137 6 hsz137 Ao136 x900001_1.length co136 (ji123) q0137 q137
               have hr137 := Kd.C_drop (m := ((ji123) : Int).toNat) (c := co136) hC137 (by omega) hroom137
               obtain ⟨A137, hA137⟩ : ∃ A1, A1 = (if co136 = ((ji123) : Int).toNat then Ao136 else (Ao136 : Option Addr).map (·.add (((ji123) : Int).toNat * 6))) := ⟨_, rfl⟩
               obtain ⟨c137, hc137⟩ : ∃ c1, c1 = co136 - ((ji123) : Int).toNat := ⟨_, rfl⟩
               have hy137 : y933.length = x900001_1.length - ((ji123) : Int).toNat := (by rw [Ny933.out, List.length_drop] <;> omega)
               rw [show (x900001_1).drop ((ji123) : Int).toNat = y933 from Ny933.out.symm] at hr137
               replace hr137 : Kd.C k26 _ A137 y933.length y933 := (by rw [hA137]; exact hr137)
               rw [← hy137, ← hA137, ← hc137] at hcut137
               have HR936 := Aside0.mk hr137
               have HC936 := ra (show y933.length ≤ c137 from by rw [hy137, hc137]; exact Nat.sub_le_sub_right hroom137 _)
               clear hr137 hC137 hroom137 hi0137 hsz137 hc137
               have KY137 := Aside0.mk hy137
               have KA137 := Aside0.mk hA137
               clear hy137 hA137
               have KL137 := ra (show ((ji123) : Int).toNat ≤ x900001_1.length from by omega)
               replace q137 := eq_true q137
               refine start_ (n := 14) (S := fun w' => w'.cell? ⟨gb899, 0, none⟩ = some (.string t894) ∧ w'.cell? ⟨gb899, 1, none⟩ = some (.slice Ao136 x900001_1.length co136)) (ds := [13]) #[false, false, false, false, false, false, false, false, false, false, false, false, false, false] (by kernel_rfl) rfl rfl ⟨(blk_cell BK899.out 0).trans rfl, (blk_cell BK899.out 1).trans rfl⟩ (fun hHeld => ?_); refine with_tabW spec_DrawProbeSmaller.tab21 spec_DrawProbeSmaller.bits21 (fun HT_ HW_ => ?_)
               generalize w133.drew = w134 at HO_900001 HO_905001 BK889 BK890 BK899 BK904 HI893 HB HR929 HR936 hHeld ⊢
               refine pu 1 117 (bl 14 2) ?_
               refine pu 3 119 (bl 14 10) ?_
               refine pu 6 122 (bl 14 74) ?_
               refine pu 8 124 (bl 14 330) ?_
               refine pu 9 125 (bl 14 842) ?_
               refine tk 2 118 (bl 14 846) ?_ hHeld
               refine pu 4 120 (bl 14 862) ?_
               refine tk 7 123 (bl 14 990) ?_ hHeld
               refine pu 10 126 (bl 14 2014) ?_
               refine oe 0 116 (bl 14 2015) (fun K hK => ?_)
               refine Kd.R_lit_step k26 _ 26 ?hg (N := 116) ?hd (xs := ([] : List (S26))) (inner := []) (ok := fun _ => True) (okp := fun _ => True) ?hr ?hp (fun _ hk => hk) trivial (Below.refl _ _) (Nat.le_refl _) (by simp) ?_; (case hd => rfl); (case hg => rfl); (case hr => first | (go_simp; done) | (go_simp; rfl)); (case hp => exact (Reps.none _ _))
               intro v924 w138 ho139 hb hg_ hnew_
               clear hg_ hnew_
               (first | rw [← Ny923.out] at ho139 | (simp only [Int.reduceToNat] at ho139; rw [← Ny923.out] at ho139))
               have _ := ra (Kd.R_elder' (rq HO_900001) (Kd.R_base ho139) hb)
               have _ := ra (Kd.R_elder' (rq HO_905001) (Kd.R_base ho139) hb)
               have _ := ra (Kd.R_lower (Kd.R_new' (Kd.R_new' ho139 (Kd.R_lt (rq HO_900001))) (Kd.R_lt (rq HO_905001))) (below_size (qb HI893 HB)))
               have _ := bb (bk BK889) hb
               have _ := bb (bk BK890) hb
               have _ := bb (bk BK899) hb
               have _ := bb (bk BK904) hb
               have _ := ra (IsS90.below (qi HI893) hb)
               have _ := ra (Kd.C_below (by repeat (first | (with_reducible exact HR929.out) | (with_reducible refine Kd.C_alloc ?_ _) | (with_reducible refine Kd.C_drewN ?_ _) | (with_reducible refine Kd.C_drew ?_) | exact HR929.out)) hb)
               have _ := ra (Kd.C_below (by repeat (first | (with_reducible exact HR936.out) | (with_reducible refine Kd.C_alloc ?_ _) | (with_reducible refine Kd.C_drewN ?_ _) | (with_reducible refine Kd.C_drew ?_) | exact HR936.out)) hb)
               have _ := ra (below_step (qb HI893 HB) hb)
               clear HO_900001 HO_905001 BK889 BK890 BK899 BK904 HI893 HR929 HR936 HB
               rename_i HO_900001 HO_905001 HO925 BK889 BK890 BK899 BK904 HI893 HR929 HR936 HB
               clear hb ho139
               refine hK.out _ _ ⟨(blk_cell BK899.out 0).trans rfl, (blk_cell BK899.out 1).trans rfl⟩ (fun hHeld => ?_)
               clear hK K
               refine nm 116 ?_
               refine oe 5 121 (bl 14 2047) (fun K hK => ?_)
               refine Kd.R_append_rows_step k26 (w0 := w) w.heap.size (by rfl) (.tmp 116) (.tmp 120) 37 26 (.agg #[(.int .i64 0), (.int .i64 0), (.int .i64 0), (.int .i64 0), (.int .i64 0), (.int .i64 0)]) 48 rfl Try.underlying37 info26 rfl (by decide) (by omega) v924 y923 y926 _ _ _ (fun k_ => some k_ ≠ (.slice Ao136 x900001_1.length co136 : Value).ownBlock ∧ some k_ ≠ (.slice Ao82 x905001_1.length co82 : Value).ownBlock) (fun _ => False) rfl rfl ?aO ?aR (fun _ _ h => h) (fun _ h => h.elim) ?aF ?aB ?aS ?aL ?_
               (case aR => repeat (first | exact (by repeat (first | (with_reducible exact HR929.out) | (with_reducible refine Kd.C_alloc ?_ _) | (with_reducible refine Kd.C_drewN ?_ _) | (with_reducible refine Kd.C_drew ?_) | exact HR929.out)) | (with_reducible refine Kd.C_alloc ?_ _) | (with_reducible refine Kd.C_drewN ?_ _) | (with_reducible refine Kd.C_drew ?_)))
               (case aB => exact (qb HI893 HB))
               (case aF => exact (fun k_ hk => ⟨Kd.fresh' (Kd.R_lt (rq HO_900001)) k_ hk, Kd.fresh' (Kd.R_lt (rq HO_905001)) k_ hk⟩))
               (case aO => exact (by (with_reducible repeat (first | apply Kd.R_alloc | apply Kd.R_drewN | apply Kd.R_drew)); exact Kd.R_mono HO925.out (fun _ hk => ⟨hk.1.2, hk.2⟩)))
               (case aS => exact (below_size (qb HI893 HB)))
               (case aL => have := LMc122.out; omega)
               intro v931 w140 ho hb hg hat
               rw [← Ny930.out] at ho
               have _ := ra (Kd.R_after (ok := (fun k_ => some k_ ≠ (.slice Ao82 x905001_1.length co82 : Value).ownBlock)) (rq HO_900001) hg hat)
               have _ := ra (Kd.R_after (ok := (fun k_ => some k_ ≠ (.slice Ao136 x900001_1.length co136 : Value).ownBlock)) (rq HO_905001) hg hat)
               have _ := ra (blk_grown (g := gb889) (o := .cells #[.string (⟨#[]⟩ : ByteArray), .slice none 0 0] 39 (0, 0)) (bk BK889) hg (Kd.R_ne HO925.out BK889.out (by decide)))
               have _ := ra (blk_grown (g := gb890) (o := .cells #[.string (⟨#[]⟩ : ByteArray), .slice none 0 0] 39 (0, 0)) (bk BK890) hg (Kd.R_ne HO925.out BK890.out (by decide)))
               have _ := ra (blk_grown (g := gb899) (o := .cells #[.string t894, .slice Ao136 x900001_1.length co136] 39 (0, 0)) (bk BK899) hg (Kd.R_ne HO925.out BK899.out (by decide)))
               have _ := ra (blk_grown (g := gb904) (o := .cells #[.string t900, .slice Ao82 x905001_1.length co82] 39 (0, 0)) (bk BK904) hg (Kd.R_ne HO925.out BK904.out (by decide)))
               have _ := ra (IsS90.grown (qi HI893) hg (IsS90.own_ne HI893.out HO925.out (by decide)))
               have _ := ra (hb)
               have _ := ra ((show Kd.C k26 w140 Ao136 y926.length y926 from by rw [Ny926.out]; exact Kd.C_take (m := (t917 : Int).toNat) ((Kd.R_reads' (Kd.R_after (ok := (fun k_ => some k_ ≠ (.slice Ao82 x905001_1.length co82 : Value).ownBlock)) (rq HO_900001) hg hat)).2.2) KL135.out))
               have _ := ra ((show Kd.C k26 w140 A137 y933.length y933 from by rw [Ny933.out, KA137.out]; exact Kd.C_drop (m := ((ji123) : Int).toNat) (c := co136) ((Kd.R_reads' (Kd.R_after (ok := (fun k_ => some k_ ≠ (.slice Ao82 x905001_1.length co82 : Value).ownBlock)) (rq HO_900001) hg hat)).2.2) KL137.out ((Kd.R_reads' (Kd.R_after (ok := (fun k_ => some k_ ≠ (.slice Ao82 x905001_1.length co82 : Value).ownBlock)) (rq HO_900001) hg hat)).2.1)))
               have _ := ra (ho)
               clear HO_900001 HO_905001 BK889 BK890 BK899 BK904 HI893 HB HR929 HR936 HO925
               rename_i HO_900001 HO_905001 BK889 BK890 BK899 BK904 HI893 HB HR929 HR936 HO932
               clear ho hb hg hat
               refine hK.out _ _ ⟨(blk_cell BK899.out 0).trans rfl, (blk_cell BK899.out 1).trans rfl⟩ (fun hHeld => ?_)
               clear hK K
               refine nm 121 ?_
               refine oe 11 127 (bl 14 4095) (fun K hK => ?_)
               refine Kd.R_append_rows_step k26 (w0 := w) w.heap.size (by rfl) (.tmp 121) (.tmp 126) 37 26 (.agg #[(.int .i64 0), (.int .i64 0), (.int .i64 0), (.int .i64 0), (.int .i64 0), (.int .i64 0)]) 48 rfl Try.underlying37 info26 rfl (by decide) (by omega) v931 y930 y933 _ _ _ (fun k_ => some k_ ≠ (.slice Ao136 x900001_1.length co136 : Value).ownBlock ∧ some k_ ≠ (.slice Ao82 x905001_1.length co82 : Value).ownBlock) (fun _ => False) rfl rfl ?aO ?aR (fun _ _ h => h) (fun _ h => h.elim) ?aF ?aB ?aS ?aL ?_
               (case aR => repeat (first | exact (by repeat (first | (with_reducible exact HR936.out) | (with_reducible refine Kd.C_alloc ?_ _) | (with_reducible refine Kd.C_drewN ?_ _) | (with_reducible refine Kd.C_drew ?_) | exact HR936.out)) | (with_reducible refine Kd.C_alloc ?_ _) | (with_reducible refine Kd.C_drewN ?_ _) | (with_reducible refine Kd.C_drew ?_)))
               (case aB => exact (qb HI893 HB))
               (case aF => exact (fun k_ hk => ⟨Kd.fresh' (Kd.R_lt (rq HO_900001)) k_ hk, Kd.fresh' (Kd.R_lt (rq HO_905001)) k_ hk⟩))
               (case aO => exact (rq HO932))
               (case aS => exact (below_size (qb HI893 HB)))
               (case aL => have := LMc126.out; omega)
               intro v938 w141 ho hb hg hat
               rw [← Ny937.out] at ho
               have _ := ra (Kd.R_after (ok := (fun k_ => some k_ ≠ (.slice Ao82 x905001_1.length co82 : Value).ownBlock)) (rq HO_900001) hg hat)
               have _ := ra (Kd.R_after (ok := (fun k_ => some k_ ≠ (.slice Ao136 x900001_1.length co136 : Value).ownBlock)) (rq HO_905001) hg hat)
               have _ := ra (blk_grown (g := gb889) (o := .cells #[.string (⟨#[]⟩ : ByteArray), .slice none 0 0] 39 (0, 0)) (bk BK889) hg (Kd.R_ne HO932.out BK889.out (by decide)))
               have _ := ra (blk_grown (g := gb890) (o := .cells #[.string (⟨#[]⟩ : ByteArray), .slice none 0 0] 39 (0, 0)) (bk BK890) hg (Kd.R_ne HO932.out BK890.out (by decide)))
               have _ := ra (blk_grown (g := gb899) (o := .cells #[.string t894, .slice Ao136 x900001_1.length co136] 39 (0, 0)) (bk BK899) hg (Kd.R_ne HO932.out BK899.out (by decide)))
               have _ := ra (blk_grown (g := gb904) (o := .cells #[.string t900, .slice Ao82 x905001_1.length co82] 39 (0, 0)) (bk BK904) hg (Kd.R_ne HO932.out BK904.out (by decide)))
               have _ := ra (IsS90.grown (qi HI893) hg (IsS90.own_ne HI893.out HO932.out (by decide)))
               have _ := ra (hb)
               have _ := ra ((show Kd.C k26 w141 Ao136 y926.length y926 from by rw [Ny926.out]; exact Kd.C_take (m := (t917 : Int).toNat) ((Kd.R_reads' (Kd.R_after (ok := (fun k_ => some k_ ≠ (.slice Ao82 x905001_1.length co82 : Value).ownBlock)) (rq HO_900001) hg hat)).2.2) KL135.out))
               have _ := ra ((show Kd.C k26 w141 A137 y933.length y933 from by rw [Ny933.out, KA137.out]; exact Kd.C_drop (m := ((ji123) : Int).toNat) (c := co136) ((Kd.R_reads' (Kd.R_after (ok := (fun k_ => some k_ ≠ (.slice Ao82 x905001_1.length co82 : Value).ownBlock)) (rq HO_900001) hg hat)).2.2) KL137.out ((Kd.R_reads' (Kd.R_after (ok := (fun k_ => some k_ ≠ (.slice Ao82 x905001_1.length co82 : Value).ownBlock)) (rq HO_900001) hg hat)).2.1)))
               have _ := ra (ho)
               clear HO_900001 HO_905001 BK889 BK890 BK899 BK904 HI893 HB HR929 HR936 HO932
               rename_i HO_900001 HO_905001 BK889 BK890 BK899 BK904 HI893 HB HR929 HR936 HO939
               clear ho hb hg hat
               obtain ⟨Ao142, co142, eo142⟩ := Kd.R_slice HO939.out
               (first | subst eo142 | (injection eo142 with f1_ f2_ f3_; have f4_ := f1_.symm; have f5_ := f3_.symm; clear f1_ f2_ f3_; subst f4_; subst f5_))
               refine hK.out _ _ ⟨(blk_cell BK899.out 0).trans rfl, (blk_cell BK899.out 1).trans rfl⟩ (fun hHeld => ?_)
               clear hK K
               refine nm 127 ?_
               refine pu 12 128 (bl 14 8191) ?_
               refine last_ (i := 13) (N := none) #[true, true, true, true, true, true, true, true, true, true, true, true, true, true] rfl rfl (one_of HT_.out (by kernel_rfl)) (by decide) (fun K hK => ?_)
               have hs143 : w141.cell? ⟨gb899, 1, none⟩ = some (.slice Ao136 x900001_1.length co136) := (blk_cell BK899.out 1).trans rfl
               have hfs143 := blk_frozen BK899.out 1
               have hns143_0 := NB889_899.out
               have hns143_1 := NB890_899.out
               have hns143_3 := NB904_899.out
               have hms143_0 := NB899_889.out
               have hms143_1 := NB899_890.out
               have hms143_3 := NB899_904.out
               refine skip_ (w1 := ?_) (by rfl) rfl ?_ ?_
               rotate_left
               ·go_simp
                rfl
               refine hK.out _ _ ?_
               clear hK K
               refine done_ (done_of HT_.out (by kernel_rfl)) ?_
               try go_wp2
               have n0 : Aside0 (Kd.R k26 26 (w141.setCell ⟨gb899, 1, none⟩ (.slice Ao142 y937.length co142)) w.heap.size (fun k_ => some k_ ≠ (.slice Ao82 x905001_1.length co82 : Value).ownBlock ∧ some k_ ≠ (.slice Ao142 y937.length co142 : Value).ownBlock) (.slice Ao136 x900001_1.length co136) x900001_1) := ⟨by (with_reducible repeat (first | apply Kd.R_alloc | apply Kd.R_drewN | apply Kd.R_drew)); exact Kd.R_mono (rf (Kd.R_types HO_900001.out BK899.out (by decide))) (fun _ hk => ⟨hk.1.1, hk.1.2⟩)⟩
               have n1 : Aside0 (Kd.R k26 26 (w141.setCell ⟨gb899, 1, none⟩ (.slice Ao142 y937.length co142)) w.heap.size (fun k_ => some k_ ≠ (.slice Ao136 x900001_1.length co136 : Value).ownBlock ∧ some k_ ≠ (.slice Ao142 y937.length co142 : Value).ownBlock) (.slice Ao82 x905001_1.length co82) x905001_1) := ⟨by (with_reducible repeat (first | apply Kd.R_alloc | apply Kd.R_drewN | apply Kd.R_drew)); exact Kd.R_mono (rf (Kd.R_types HO_905001.out BK899.out (by decide))) (fun _ hk => ⟨hk.1.1, hk.1.2⟩)⟩
               have n2 : Aside0 (Kd.R k26 26 (w141.setCell ⟨gb899, 1, none⟩ (.slice Ao142 y937.length co142)) w.heap.size (fun k_ => some k_ ≠ (.slice Ao136 x900001_1.length co136 : Value).ownBlock ∧ some k_ ≠ (.slice Ao82 x905001_1.length co82 : Value).ownBlock) (.slice Ao142 y937.length co142) y937) := ⟨by (with_reducible repeat (first | apply Kd.R_alloc | apply Kd.R_drewN | apply Kd.R_drew)); exact Kd.R_mono (rf (Kd.R_types HO939.out BK899.out (by decide))) (fun _ hk => ⟨hk.1.1, hk.1.2⟩)⟩
               have n3 : Aside0 ((w141.setCell ⟨gb899, 1, none⟩ (.slice Ao142 y937.length co142)).heap[gb889]? = some (.cells #[.string (⟨#[]⟩ : ByteArray), .slice none 0 0] 39 (0, 0))) := ⟨bk BK889⟩
               have n4 : Aside0 ((w141.setCell ⟨gb899, 1, none⟩ (.slice Ao142 y937.length co142)).heap[gb890]? = some (.cells #[.string (⟨#[]⟩ : ByteArray), .slice none 0 0] 39 (0, 0))) := ⟨bk BK890⟩
               have n5 : Aside0 ((w141.setCell ⟨gb899, 1, none⟩ (.slice Ao142 y937.length co142)).heap[gb899]? = some (.cells #[.string t894, .slice Ao142 y937.length co142] 39 (0, 0))) := ⟨bp BK899⟩
               have n6 : Aside0 ((w141.setCell ⟨gb899, 1, none⟩ (.slice Ao142 y937.length co142)).heap[gb904]? = some (.cells #[.string t900, .slice Ao82 x905001_1.length co82] 39 (0, 0))) := ⟨bk BK904⟩
               have n7 : Aside0 (IsS90 w (w141.setCell ⟨gb899, 1, none⟩ (.slice Ao142 y937.length co142)) g893 t891 t920) := ⟨by exact qi HI893⟩
               have n8_ : Aside0 (Below w.heap.size w (w141.setCell ⟨gb899, 1, none⟩ (.slice Ao142 y937.length co142))) := ⟨by exact qb HI893 HB⟩
               (try clear HO_900001)
               (try clear HO_905001)
               (try clear HO939)
               (try clear BK889)
               (try clear BK890)
               (try clear BK899)
               (try clear BK904)
               (try clear HI893)
               (try clear HB)
               generalize (w141.setCell ⟨gb899, 1, none⟩ (.slice Ao142 y937.length co142)) = w144 at n0 n1 n2 n3 n4 n5 n6 n7 n8_ ⊢
               have HO_900001 := n0
               have HO_905001 := n1
               have HO939 := n2
               have BK889 := n3
               have BK890 := n4
               have BK899 := n5
               have BK904 := n6
               have HI893 := n7
               have HB := n8_
               clear n0 n1 n2 n3 n4 n5 n6 n7 n8_
               have _ := ra (Kd.R_drew HO_900001.out)
               have _ := ra (Kd.R_drew HO_905001.out)
               have _ := ra (Kd.R_drew HO939.out)
               have _ := ra (blk_drew BK889.out)
               have _ := ra (blk_drew BK890.out)
               have _ := ra (blk_drew BK899.out)
               have _ := ra (blk_drew BK904.out)
               have _ := ra (IsS90.drew HI893.out)
               have _ := ra (below_drew1 HB.out)
               clear HO_900001 HO_905001 HO939 BK889 BK890 BK899 BK904 HI893 HB
               rename_i HO_900001 HO_905001 HO939 BK889 BK890 BK899 BK904 HI893 HB
               refine start_ (n := 4) (S := fun w' => w'.cell? ⟨gb904, 0, none⟩ = some (.string t900) ∧ w'.cell? ⟨gb904, 1, none⟩ = some (.slice Ao82 x905001_1.length co82) ∧ w'.cell? ⟨gb899, 0, none⟩ = some (.string t894) ∧ w'.cell? ⟨gb899, 1, none⟩ = some (.slice Ao142 y937.length co142)) (ds := []) (bl 4 0) (by kernel_rfl) rfl rfl ⟨(blk_cell BK904.out 0).trans rfl, (blk_cell BK904.out 1).trans rfl, (blk_cell BK899.out 0).trans rfl, (blk_cell BK899.out 1).trans rfl⟩ (fun hHeld => ?_)
               generalize w144.drew = w145 at HO_900001 HO_905001 HO939 BK889 BK890 BK899 BK904 HI893 HB hHeld ⊢
               refine tk 0 129 (bl 4 1) ?_ hHeld
               refine tk 1 130 (bl 4 3) ?_ hHeld
               refine one_ (i := 2) (N := none) #[true, true, true, false] rfl rfl (by kernel_rfl) (by decide) (fun K hK => ?_)
               have hs146 : w145.cell? ⟨gb889, 0, none⟩ = some (.string (⟨#[]⟩ : ByteArray)) := (blk_cell BK889.out 0).trans rfl
               have hfs146 := blk_frozen BK889.out 0
               have hns146_1 := NB890_889.out
               have hns146_2 := NB899_889.out
               have hns146_3 := NB904_889.out
               have hms146_1 := NB889_890.out
               have hms146_2 := NB889_899.out
               have hms146_3 := NB889_904.out
               have hs147 : w145.cell? ⟨gb889, 1, none⟩ = some (.slice none 0 0) := (blk_cell BK889.out 1).trans rfl
               have hfs147 := blk_frozen BK889.out 1
               have hns147_1 := NB890_889.out
               have hns147_2 := NB899_889.out
               have hns147_3 := NB904_889.out
               have hms147_1 := NB889_890.out
               have hms147_2 := NB889_899.out
               have hms147_3 := NB889_904.out
               refine skip_ (w1 := ?_) (by rfl) rfl ?_ ?_
               rotate_left
               ·go_simp
                rfl
               refine hK.out _ _ ⟨((cell_far (p := ⟨gb889, _, none⟩) NB904_889.out _).trans (((cell_far (p := ⟨gb889, _, none⟩) NB904_889.out _).trans (hHeld.1)))), ((cell_far (p := ⟨gb889, _, none⟩) NB904_889.out _).trans (((cell_far (p := ⟨gb889, _, none⟩) NB904_889.out _).trans (hHeld.2.1)))), ((cell_far (p := ⟨gb889, _, none⟩) NB899_889.out _).trans (((cell_far (p := ⟨gb889, _, none⟩) NB899_889.out _).trans (hHeld.2.2.1)))), ((cell_far (p := ⟨gb889, _, none⟩) NB899_889.out _).trans (((cell_far (p := ⟨gb889, _, none⟩) NB899_889.out _).trans (hHeld.2.2.2))))⟩ (fun hHeld => ?_)
               clear hK K
               refine one_ (i := 3) (N := none) #[true, true, true, true] rfl rfl (by kernel_rfl) (by decide) (fun K hK => ?_)
               have hs148 : w145.cell? ⟨gb890, 0, none⟩ = some (.string (⟨#[]⟩ : ByteArray)) := (blk_cell BK890.out 0).trans rfl
               have hfs148 := blk_frozen BK890.out 0
               have hns148_0 := NB889_890.out
               have hns148_2 := NB899_890.out
               have hns148_3 := NB904_890.out
               have hms148_0 := NB890_889.out
               have hms148_2 := NB890_899.out
               have hms148_3 := NB890_904.out
               have hs149 : w145.cell? ⟨gb890, 1, none⟩ = some (.slice none 0 0) := (blk_cell BK890.out 1).trans rfl
               have hfs149 := blk_frozen BK890.out 1
               have hns149_0 := NB889_890.out
               have hns149_2 := NB899_890.out
               have hns149_3 := NB904_890.out
               have hms149_0 := NB890_889.out
               have hms149_2 := NB890_899.out
               have hms149_3 := NB890_904.out
               refine skip_ (w1 := ?_) (by rfl) rfl ?_ ?_
               rotate_left
               ·go_simp
                rfl
               refine hK.out _ _ ⟨((cell_far (p := ⟨gb890, _, none⟩) NB904_890.out _).trans (((cell_far (p := ⟨gb890, _, none⟩) NB904_890.out _).trans (hHeld.1)))), ((cell_far (p := ⟨gb890, _, none⟩) NB904_890.out _).trans (((cell_far (p := ⟨gb890, _, none⟩) NB904_890.out _).trans (hHeld.2.1)))), ((cell_far (p := ⟨gb890, _, none⟩) NB899_890.out _).trans (((cell_far (p := ⟨gb890, _, none⟩) NB899_890.out _).trans (hHeld.2.2.1)))), ((cell_far (p := ⟨gb890, _, none⟩) NB899_890.out _).trans (((cell_far (p := ⟨gb890, _, none⟩) NB899_890.out _).trans (hHeld.2.2.2))))⟩ (fun hHeld => ?_)
               clear hK K
               refine done_ (by kernel_rfl) ?_
               try go_wp2
               refine bodyPost_ret (results_cc rfl _ _ gb889 gb890 39 39 #[.string t900, .slice Ao82 x905001_1.length co82] #[.string t894, .slice Ao142 y937.length co142] (0, 0) (0, 0) _ _ rfl (bp BK889) Try.underlying39 rfl (by kernel_rfl) rfl (bp BK890) Try.underlying39 rfl (by kernel_rfl)) rfl ?_
               exact ⟨_, _, by first | rfl | (simp [errW_none, errW_some] <;> rfl) | (simp only [← hji123]; first | rfl | (simp [errW_none, errW_some] <;> rfl)) | (simp [*, errW_none, errW_some] <;> rfl), by (with_reducible repeat (first | apply Kd.R_alloc | apply Kd.R_drewN | apply Kd.R_drew)); exact Kd.R_mono (rf (Kd.R_types (Kd.R_types HO_905001.out BK889.out (by decide)) BK890.out (by decide))) (fun _ hk => hk.1.1.2), by (with_reducible repeat (first | apply Kd.R_alloc | apply Kd.R_drewN | apply Kd.R_drew)); exact Kd.R_mono (rf (Kd.R_types (Kd.R_types HO939.out BK889.out (by decide)) BK890.out (by decide))) (fun _ hk => hk.1.1.2), by exact qb HI893 HB⟩
              ·rw [if_neg c126] at H
               exact absurd H (by simp)
             ·rw [if_neg c125] at H
              exact absurd H (by simp)
            ·rw [if_neg c124] at H
             exact absurd H (by simp)
           ·rw [if_neg c122] at H
            exact absurd H (by simp)
          ·rw [if_neg c121] at H
           exact absurd H (by simp)
         ·rw [if_neg c120] at H
          exact absurd H (by simp)
        ·rw [if_neg c119] at H
         have c119b0 : (t919 == 1) = false := beq_eq_false_iff_ne.mpr c119
         have c119b1 : (t919 != 1) = true := bne_iff_ne.mpr c119
         obtain ⟨⟨t940, t941, t942, t943, t944, t945, t946⟩, A150, H⟩ := bo H
         try dsimp only at H
         by_cases c151 : 0 ≤ t917
         ·rw [if_pos c151] at H
          have c151b0 : decide (0 ≤ t917) = true := decide_eq_true c151
          clear c151
          by_cases c152 : t917 < (x905001_1.length : Int)
          ·rw [if_pos c152] at H
           have c152b0 : decide (t917 < (x905001_1.length : Int)) = true := decide_eq_true c152
           clear c152
           obtain ⟨y947, hy_⟩ : ∃ y_ : List (S26), y_ = (x905001_1.set (t917 : Int).toNat (⟨t940, t941, t942, t943, t944, t945⟩ : S26)) := ⟨_, rfl⟩
           replace H : (some (t900, y947, t894, x900001_1)) = some (r1, r2, r3, r4) := yh
           have Ny947 := ra hy_
           clear hy_
           simp only [Option.some.injEq, Prod.mk.injEq] at H
           obtain ⟨rfl, rfl, rfl, rfl⟩ := H
           have hnb154 := NB904_889.out
           have hnc154 := NB889_904.out
           have hnb155 := NB904_890.out
           have hnc155 := NB890_904.out
           have hnb156 := NB904_899.out
           have hnc156 := NB899_904.out
           have hnb157 := NB904_893.out
           have hnc157 := NB893_904.out
           obtain ⟨hcz158_0, hcz158_1, hfz158_0, hfz158_1⟩ := zc2 BK904
           try go_wp2_with (first | ((with_reducible refine gate_callee (f := 65) rfl ?_); refine gl (some 91) Try.func65 #[.pointer (some ⟨g893, 0, none⟩), .int .i64 (x905001_1.length : Int)] ?_; (with_reducible refine (spec_l1Rd_pick.calls kj75 g893 t891 x894001_75 (x905001_1.length : Int) t917 t918 w _ ?side1 ?side2 A97.out).mono ?_); (case side1 => exact qi HI893); (case side2 => exact qb HI893 HB); rintro e w159 ⟨rfl, hi, hb, hk⟩; refine ⟨_, rfl, ?_⟩; have _ := ra (Kd.R_mono (Kd.R_keep (IsS90.apart (show IsS90 w _ g893 t891 x894001_75 from qi HI893) (rq HO_900001) (by decide)) hk (fun _ h => h.2)) (fun _ h => h.1)); have _ := ra (Kd.R_mono (Kd.R_keep (IsS90.apart (show IsS90 w _ g893 t891 x894001_75 from qi HI893) (rq HO_905001) (by decide)) hk (fun _ h => h.2)) (fun _ h => h.1)); have _ := kv hk (bk BK889) NB889_893; have _ := kv hk (bk BK890) NB890_893; have _ := kv hk (bk BK899) NB899_893; have _ := kv hk (bk BK904) NB904_893; have _ := ra (hb); have _ := ra (hi); clear HO_900001 HO_905001 BK889 BK890 BK899 BK904 HB HI893; rename_i HO_900001 HO_905001 BK889 BK890 BK899 BK904 HB HI893; (try clear hb); (try clear hb2); (try clear hk); (try clear hi)) | ((with_reducible refine gate_callee (f := 65) rfl ?_); refine gl (some 93) Try.func65 #[.pointer (some ⟨g893, 0, none⟩), .int .i64 3] ?_; (with_reducible refine (spec_l1Rd_pick.calls kj75 g893 t891 t918 3 t919 t920 w _ ?side1 ?side2 A98.out).mono ?_); (case side1 => exact qi HI893); (case side2 => exact qb HI893 HB); rintro e w160 ⟨rfl, hi, hb, hk⟩; refine ⟨_, rfl, ?_⟩; have _ := ra (Kd.R_mono (Kd.R_keep (IsS90.apart (show IsS90 w _ g893 t891 t918 from qi HI893) (rq HO_900001) (by decide)) hk (fun _ h => h.2)) (fun _ h => h.1)); have _ := ra (Kd.R_mono (Kd.R_keep (IsS90.apart (show IsS90 w _ g893 t891 t918 from qi HI893) (rq HO_905001) (by decide)) hk (fun _ h => h.2)) (fun _ h => h.1)); have _ := kv hk (bk BK889) NB889_893; have _ := kv hk (bk BK890) NB890_893; have _ := kv hk (bk BK899) NB899_893; have _ := kv hk (bk BK904) NB904_893; have _ := ra (hb); have _ := ra (hi); clear HO_900001 HO_905001 BK889 BK890 BK899 BK904 HB HI893; rename_i HO_900001 HO_905001 BK889 BK890 BK899 BK904 HB HI893; (try clear hb); (try clear hb2); (try clear hk); (try clear hi)))
           have _ := ra (Kd.R_drew HO_900001.out)
           have _ := ra (Kd.R_drew HO_905001.out)
           have _ := ra (blk_drew BK889.out)
           have _ := ra (blk_drew BK890.out)
           have _ := ra (blk_drew BK899.out)
           have _ := ra (blk_drew BK904.out)
           have _ := ra (IsS90.drew HI893.out)
           have _ := ra (below_drew1 HB.out)
           clear HO_900001 HO_905001 BK889 BK890 BK899 BK904 HI893 HB
           rename_i HO_900001 HO_905001 BK889 BK890 BK899 BK904 HI893 HB
           refine start_ (n := 7) (S := fun w' => w'.cell? ⟨gb904, 0, none⟩ = some (.string t900) ∧ w'.cell? ⟨gb904, 1, none⟩ = some (.slice Ao82 x905001_1.length co82)) (ds := [6]) #[false, false, false, false, false, false, false] (by kernel_rfl) rfl rfl ⟨(blk_cell BK904.out 0).trans rfl, (blk_cell BK904.out 1).trans rfl⟩ (fun hHeld => ?_)
           generalize w160.drew = w161 at HO_900001 HO_905001 BK889 BK890 BK899 BK904 HI893 HB hHeld ⊢
           refine pu 0 94 (bl 7 1) ?_
           refine pu 2 96 (bl 7 5) ?_
           refine pu 3 97 (bl 7 13) ?_
           refine tk 1 95 (bl 7 15) ?_ hHeld
           refine oe 4 98 (bl 7 31) (fun K hK => ?_)
           refine gs Try.func68 #[.pointer (some ⟨g893, 0, none⟩)] ?_
           with_reducible refine (spec_l1DrawBox.calls kj75 g893 t891 t920 t940 t941 t942 t943 t944 t945 t946 w _ ?side1 ?side2 A150.out).mono ?_
           (case side1 => exact qi HI893)
           (case side2 => exact qb HI893 HB)
           rintro e w162 ⟨rfl, hi, hb, hk⟩
           refine ⟨_, rfl, ?_⟩
           have _ := ra (Kd.R_mono (Kd.R_keep (IsS90.apart (show IsS90 w _ g893 t891 t920 from qi HI893) (rq HO_900001) (by decide)) hk (fun _ h => h.2)) (fun _ h => h.1))
           have _ := ra (Kd.R_mono (Kd.R_keep (IsS90.apart (show IsS90 w _ g893 t891 t920 from qi HI893) (rq HO_905001) (by decide)) hk (fun _ h => h.2)) (fun _ h => h.1))
           have _ := kv hk (bk BK889) NB889_893
           have _ := kv hk (bk BK890) NB890_893
           have _ := kv hk (bk BK899) NB899_893
           have _ := kv hk (bk BK904) NB904_893
           have _ := ra (hb)
           have _ := ra (hi)
           clear HO_900001 HO_905001 BK889 BK890 BK899 BK904 HB HI893
           rename_i HO_900001 HO_905001 BK889 BK890 BK899 BK904 HB HI893
           (try clear hb)
           (try clear hb2)
           (try clear hk)
           (try clear hi)
           have p153 : 0 ≤ (t917 : Int) := od
           have q153 : (t917 : Int) < ((x905001_1.length : Int) : Int) := od
           obtain ⟨go153, co153, eo153, gb153, gl153, cl153, HG153⟩ := Kd.R_form HO_905001.out (by omega)
           (first | cases eo153 | (injection eo153 with ea_ en_ ec_; (first | subst ea_ | (injection ea_ with ea_; subst ea_)); subst ec_; clear en_))
           have GB153 := Aside0.mk gb153
           have GG153 := Aside0.mk HG153
           clear gb153 gl153 HG153
           obtain ⟨ce153, hcl153, hM153, hcc153, hfr153⟩ := Kd.R_elem HO_905001.out z26 (t917 : Int) p153 q153
           obtain rfl := k26_openM hM153
           have hx153_0 : World.cell? _ ⟨go153, (t917 : Int).toNat * 6, none⟩ = some (.int .i64 ((rd_T26 x905001_1 t917).f0)) := hcc153 0 _ rfl
           have hx153_1 : World.cell? _ ⟨go153, (t917 : Int).toNat * 6 + 1, none⟩ = some (.int .i64 ((rd_T26 x905001_1 t917).f1)) := hcc153 1 _ rfl
           have hx153_2 : World.cell? _ ⟨go153, (t917 : Int).toNat * 6 + 2, none⟩ = some (.int .i64 ((rd_T26 x905001_1 t917).f2)) := hcc153 2 _ rfl
           have hx153_3 : World.cell? _ ⟨go153, (t917 : Int).toNat * 6 + 3, none⟩ = some (.int .i64 ((rd_T26 x905001_1 t917).f3)) := hcc153 3 _ rfl
           have hx153_4 : World.cell? _ ⟨go153, (t917 : Int).toNat * 6 + 4, none⟩ = some (.int .i64 ((rd_T26 x905001_1 t917).f4)) := hcc153 4 _ rfl
           have hx153_5 : World.cell? _ ⟨go153, (t917 : Int).toNat * 6 + 5, none⟩ = some (.int .i64 ((rd_T26 x905001_1 t917).f5)) := hcc153 5 _ rfl
           have hf153_0 : World.frozen? _ ⟨go153, (t917 : Int).toNat * 6, none⟩ = false := hfr153 0
           have hf153_1 : World.frozen? _ ⟨go153, (t917 : Int).toNat * 6 + 1, none⟩ = false := hfr153 1
           have hf153_2 : World.frozen? _ ⟨go153, (t917 : Int).toNat * 6 + 2, none⟩ = false := hfr153 2
           have hf153_3 : World.frozen? _ ⟨go153, (t917 : Int).toNat * 6 + 3, none⟩ = false := hfr153 3
           have hf153_4 : World.frozen? _ ⟨go153, (t917 : Int).toNat * 6 + 4, none⟩ = false := hfr153 4
           have hf153_5 : World.frozen? _ ⟨go153, (t917 : Int).toNat * 6 + 5, none⟩ = false := hfr153 5
           clear hcl153 hcc153 hfr153 hM153
           replace p153 := eq_true p153
           replace q153 := eq_true q153
           have HN893_go153 := ra (show g893 ≠ go153 from by have h_ := IsS90.own_ne HI893.out HO_905001.out (by decide); intro e_; exact h_ (by rw [e_]; rfl))
           obtain ⟨ce163, hcl163, hM163, hcc163, hfr163⟩ := Kd.R_elem HO_905001.out z26 (t917 : Int) (od) (by have h_ : (t917 : Int) < ((x905001_1.length : Int) : Int) := od; first | exact h_ | (have e_ := (Kd.R_reads' HO_905001.out).1; omega) | simpa using h_)
           obtain rfl := k26_openM hM163
           have HP163 := (Kd.R_seg HO_905001.out (t917 : Int) (od) (by have h_ : (t917 : Int) < ((x905001_1.length : Int) : Int) := od; first | exact h_ | (have e_ := (Kd.R_reads' HO_905001.out).1; omega) | simpa using h_) (seg := [.int .i64 t940, .int .i64 t941, .int .i64 t942, .int .i64 t943, .int .i64 t944, .int .i64 t945]) (j := 0) hcl163 hcc163 (show 6 ≤ 6 from by decide) (x' := (⟨t940, t941, t942, t943, t944, t945⟩ : S26)) (k26_mkM _ _ _ (⟨t940, t941, t942, t943, t944, t945⟩ : S26) ) (fun _ hk => hk)).1
           rw [← Ny947.out] at HP163
           have HQ163 := Aside0.mk HP163
           clear hcl163 hcc163 hfr163 hM163 HP163
           refine hK.out _ _ ⟨(blk_cell BK904.out 0).trans rfl, (blk_cell BK904.out 1).trans rfl⟩ (fun hHeld => ?_)
           clear hK K
           refine nm 98 ?_
           refine pu 5 99 (bl 7 63) ?_
           refine last_ (i := 6) (N := none) #[true, true, true, true, true, true, true] rfl rfl (by kernel_rfl) (by decide) (fun K hK => ?_)
           refine skip_ (w1 := ?_) (by rfl) rfl ?_ ?_
           rotate_left
           ·go_simp
            rfl
           refine hK.out _ _ ?_
           clear hK K
           refine done_ (by kernel_rfl) ?_
           have n0 : Aside0 (Kd.R k26 26 ((((((w162.setCell ⟨go153, (t917 : Int).toNat * 6, none⟩ (.int .i64 t940)).setCell ⟨go153, (t917 : Int).toNat * 6 + 1, none⟩ (.int .i64 t941)).setCell ⟨go153, (t917 : Int).toNat * 6 + 2, none⟩ (.int .i64 t942)).setCell ⟨go153, (t917 : Int).toNat * 6 + 3, none⟩ (.int .i64 t943)).setCell ⟨go153, (t917 : Int).toNat * 6 + 4, none⟩ (.int .i64 t944)).setCell ⟨go153, (t917 : Int).toNat * 6 + 5, none⟩ (.int .i64 t945)) w.heap.size (fun k_ => some k_ ≠ (.slice (some ⟨go153, 0, none⟩) x905001_1.length co82 : Value).ownBlock) u900001 x900001_1) := ⟨by (with_reducible repeat (first | apply Kd.R_alloc | apply Kd.R_drewN | apply Kd.R_drew)); exact Kd.R_mono (rf (Kd.R_mono HO_900001.out (fun k_ hk => (⟨hk, fun e_ => hk (by rw [e_]; rfl)⟩ : _ ∧ k_ ≠ go153)))) (fun _ hk => hk.1)⟩
           have n1 : Aside0 (Kd.R k26 26 ((((((w162.setCell ⟨go153, (t917 : Int).toNat * 6, none⟩ (.int .i64 t940)).setCell ⟨go153, (t917 : Int).toNat * 6 + 1, none⟩ (.int .i64 t941)).setCell ⟨go153, (t917 : Int).toNat * 6 + 2, none⟩ (.int .i64 t942)).setCell ⟨go153, (t917 : Int).toNat * 6 + 3, none⟩ (.int .i64 t943)).setCell ⟨go153, (t917 : Int).toNat * 6 + 4, none⟩ (.int .i64 t944)).setCell ⟨go153, (t917 : Int).toNat * 6 + 5, none⟩ (.int .i64 t945)) w.heap.size (fun k_ => some k_ ≠ (u900001 : Value).ownBlock) (.slice (some ⟨go153, 0, none⟩) x905001_1.length co82) y947) := ⟨by (with_reducible repeat (first | apply Kd.R_alloc | apply Kd.R_drewN | apply Kd.R_drew)); exact HQ163.out⟩
           have n2 : Aside0 (((((((w162.setCell ⟨go153, (t917 : Int).toNat * 6, none⟩ (.int .i64 t940)).setCell ⟨go153, (t917 : Int).toNat * 6 + 1, none⟩ (.int .i64 t941)).setCell ⟨go153, (t917 : Int).toNat * 6 + 2, none⟩ (.int .i64 t942)).setCell ⟨go153, (t917 : Int).toNat * 6 + 3, none⟩ (.int .i64 t943)).setCell ⟨go153, (t917 : Int).toNat * 6 + 4, none⟩ (.int .i64 t944)).setCell ⟨go153, (t917 : Int).toNat * 6 + 5, none⟩ (.int .i64 t945)).heap[gb889]? = some (.cells #[.string (⟨#[]⟩ : ByteArray), .slice none 0 0] 39 (0, 0))) := ⟨by (with_reducible repeat (first | refine blk_drewN ?_ _ | refine blk_drew ?_ | refine blk_alloc ?_ _)); refine blk_far ?_ (by have h_ := Kd.R_ne HO_905001.out BK889.out (by decide); intro e_; exact h_ (by rw [e_]; rfl)) _; (with_reducible repeat (first | refine blk_drewN ?_ _ | refine blk_drew ?_ | refine blk_alloc ?_ _)); refine blk_far ?_ (by have h_ := Kd.R_ne HO_905001.out BK889.out (by decide); intro e_; exact h_ (by rw [e_]; rfl)) _; (with_reducible repeat (first | refine blk_drewN ?_ _ | refine blk_drew ?_ | refine blk_alloc ?_ _)); refine blk_far ?_ (by have h_ := Kd.R_ne HO_905001.out BK889.out (by decide); intro e_; exact h_ (by rw [e_]; rfl)) _; (with_reducible repeat (first | refine blk_drewN ?_ _ | refine blk_drew ?_ | refine blk_alloc ?_ _)); refine blk_far ?_ (by have h_ := Kd.R_ne HO_905001.out BK889.out (by decide); intro e_; exact h_ (by rw [e_]; rfl)) _; (with_reducible repeat (first | refine blk_drewN ?_ _ | refine blk_drew ?_ | refine blk_alloc ?_ _)); refine blk_far ?_ (by have h_ := Kd.R_ne HO_905001.out BK889.out (by decide); intro e_; exact h_ (by rw [e_]; rfl)) _; (with_reducible repeat (first | refine blk_drewN ?_ _ | refine blk_drew ?_ | refine blk_alloc ?_ _)); refine blk_far ?_ (by have h_ := Kd.R_ne HO_905001.out BK889.out (by decide); intro e_; exact h_ (by rw [e_]; rfl)) _; (with_reducible repeat (first | refine blk_drewN ?_ _ | refine blk_drew ?_ | refine blk_alloc ?_ _)); exact BK889.out⟩
           have n3 : Aside0 (((((((w162.setCell ⟨go153, (t917 : Int).toNat * 6, none⟩ (.int .i64 t940)).setCell ⟨go153, (t917 : Int).toNat * 6 + 1, none⟩ (.int .i64 t941)).setCell ⟨go153, (t917 : Int).toNat * 6 + 2, none⟩ (.int .i64 t942)).setCell ⟨go153, (t917 : Int).toNat * 6 + 3, none⟩ (.int .i64 t943)).setCell ⟨go153, (t917 : Int).toNat * 6 + 4, none⟩ (.int .i64 t944)).setCell ⟨go153, (t917 : Int).toNat * 6 + 5, none⟩ (.int .i64 t945)).heap[gb890]? = some (.cells #[.string (⟨#[]⟩ : ByteArray), .slice none 0 0] 39 (0, 0))) := ⟨by (with_reducible repeat (first | refine blk_drewN ?_ _ | refine blk_drew ?_ | refine blk_alloc ?_ _)); refine blk_far ?_ (by have h_ := Kd.R_ne HO_905001.out BK890.out (by decide); intro e_; exact h_ (by rw [e_]; rfl)) _; (with_reducible repeat (first | refine blk_drewN ?_ _ | refine blk_drew ?_ | refine blk_alloc ?_ _)); refine blk_far ?_ (by have h_ := Kd.R_ne HO_905001.out BK890.out (by decide); intro e_; exact h_ (by rw [e_]; rfl)) _; (with_reducible repeat (first | refine blk_drewN ?_ _ | refine blk_drew ?_ | refine blk_alloc ?_ _)); refine blk_far ?_ (by have h_ := Kd.R_ne HO_905001.out BK890.out (by decide); intro e_; exact h_ (by rw [e_]; rfl)) _; (with_reducible repeat (first | refine blk_drewN ?_ _ | refine blk_drew ?_ | refine blk_alloc ?_ _)); refine blk_far ?_ (by have h_ := Kd.R_ne HO_905001.out BK890.out (by decide); intro e_; exact h_ (by rw [e_]; rfl)) _; (with_reducible repeat (first | refine blk_drewN ?_ _ | refine blk_drew ?_ | refine blk_alloc ?_ _)); refine blk_far ?_ (by have h_ := Kd.R_ne HO_905001.out BK890.out (by decide); intro e_; exact h_ (by rw [e_]; rfl)) _; (with_reducible repeat (first | refine blk_drewN ?_ _ | refine blk_drew ?_ | refine blk_alloc ?_ _)); refine blk_far ?_ (by have h_ := Kd.R_ne HO_905001.out BK890.out (by decide); intro e_; exact h_ (by rw [e_]; rfl)) _; (with_reducible repeat (first | refine blk_drewN ?_ _ | refine blk_drew ?_ | refine blk_alloc ?_ _)); exact BK890.out⟩
           have n4 : Aside0 (((((((w162.setCell ⟨go153, (t917 : Int).toNat * 6, none⟩ (.int .i64 t940)).setCell ⟨go153, (t917 : Int).toNat * 6 + 1, none⟩ (.int .i64 t941)).setCell ⟨go153, (t917 : Int).toNat * 6 + 2, none⟩ (.int .i64 t942)).setCell ⟨go153, (t917 : Int).toNat * 6 + 3, none⟩ (.int .i64 t943)).setCell ⟨go153, (t917 : Int).toNat * 6 + 4, none⟩ (.int .i64 t944)).setCell ⟨go153, (t917 : Int).toNat * 6 + 5, none⟩ (.int .i64 t945)).heap[gb899]? = some (.cells #[.string t894, u900001] 39 (0, 0))) := ⟨by (with_reducible repeat (first | refine blk_drewN ?_ _ | refine blk_drew ?_ | refine blk_alloc ?_ _)); refine blk_far ?_ (by have h_ := Kd.R_ne HO_905001.out BK899.out (by decide); intro e_; exact h_ (by rw [e_]; rfl)) _; (with_reducible repeat (first | refine blk_drewN ?_ _ | refine blk_drew ?_ | refine blk_alloc ?_ _)); refine blk_far ?_ (by have h_ := Kd.R_ne HO_905001.out BK899.out (by decide); intro e_; exact h_ (by rw [e_]; rfl)) _; (with_reducible repeat (first | refine blk_drewN ?_ _ | refine blk_drew ?_ | refine blk_alloc ?_ _)); refine blk_far ?_ (by have h_ := Kd.R_ne HO_905001.out BK899.out (by decide); intro e_; exact h_ (by rw [e_]; rfl)) _; (with_reducible repeat (first | refine blk_drewN ?_ _ | refine blk_drew ?_ | refine blk_alloc ?_ _)); refine blk_far ?_ (by have h_ := Kd.R_ne HO_905001.out BK899.out (by decide); intro e_; exact h_ (by rw [e_]; rfl)) _; (with_reducible repeat (first | refine blk_drewN ?_ _ | refine blk_drew ?_ | refine blk_alloc ?_ _)); refine blk_far ?_ (by have h_ := Kd.R_ne HO_905001.out BK899.out (by decide); intro e_; exact h_ (by rw [e_]; rfl)) _; (with_reducible repeat (first | refine blk_drewN ?_ _ | refine blk_drew ?_ | refine blk_alloc ?_ _)); refine blk_far ?_ (by have h_ := Kd.R_ne HO_905001.out BK899.out (by decide); intro e_; exact h_ (by rw [e_]; rfl)) _; (with_reducible repeat (first | refine blk_drewN ?_ _ | refine blk_drew ?_ | refine blk_alloc ?_ _)); exact BK899.out⟩
           have n5 : Aside0 (((((((w162.setCell ⟨go153, (t917 : Int).toNat * 6, none⟩ (.int .i64 t940)).setCell ⟨go153, (t917 : Int).toNat * 6 + 1, none⟩ (.int .i64 t941)).setCell ⟨go153, (t917 : Int).toNat * 6 + 2, none⟩ (.int .i64 t942)).setCell ⟨go153, (t917 : Int).toNat * 6 + 3, none⟩ (.int .i64 t943)).setCell ⟨go153, (t917 : Int).toNat * 6 + 4, none⟩ (.int .i64 t944)).setCell ⟨go153, (t917 : Int).toNat * 6 + 5, none⟩ (.int .i64 t945)).heap[gb904]? = some (.cells #[.string t900, .slice (some ⟨go153, 0, none⟩) x905001_1.length co82] 39 (0, 0))) := ⟨by (with_reducible repeat (first | refine blk_drewN ?_ _ | refine blk_drew ?_ | refine blk_alloc ?_ _)); refine blk_far ?_ (by have h_ := Kd.R_ne HO_905001.out BK904.out (by decide); intro e_; exact h_ (by rw [e_]; rfl)) _; (with_reducible repeat (first | refine blk_drewN ?_ _ | refine blk_drew ?_ | refine blk_alloc ?_ _)); refine blk_far ?_ (by have h_ := Kd.R_ne HO_905001.out BK904.out (by decide); intro e_; exact h_ (by rw [e_]; rfl)) _; (with_reducible repeat (first | refine blk_drewN ?_ _ | refine blk_drew ?_ | refine blk_alloc ?_ _)); refine blk_far ?_ (by have h_ := Kd.R_ne HO_905001.out BK904.out (by decide); intro e_; exact h_ (by rw [e_]; rfl)) _; (with_reducible repeat (first | refine blk_drewN ?_ _ | refine blk_drew ?_ | refine blk_alloc ?_ _)); refine blk_far ?_ (by have h_ := Kd.R_ne HO_905001.out BK904.out (by decide); intro e_; exact h_ (by rw [e_]; rfl)) _; (with_reducible repeat (first | refine blk_drewN ?_ _ | refine blk_drew ?_ | refine blk_alloc ?_ _)); refine blk_far ?_ (by have h_ := Kd.R_ne HO_905001.out BK904.out (by decide); intro e_; exact h_ (by rw [e_]; rfl)) _; (with_reducible repeat (first | refine blk_drewN ?_ _ | refine blk_drew ?_ | refine blk_alloc ?_ _)); refine blk_far ?_ (by have h_ := Kd.R_ne HO_905001.out BK904.out (by decide); intro e_; exact h_ (by rw [e_]; rfl)) _; (with_reducible repeat (first | refine blk_drewN ?_ _ | refine blk_drew ?_ | refine blk_alloc ?_ _)); exact BK904.out⟩
           have n6 : Aside0 (IsS90 w ((((((w162.setCell ⟨go153, (t917 : Int).toNat * 6, none⟩ (.int .i64 t940)).setCell ⟨go153, (t917 : Int).toNat * 6 + 1, none⟩ (.int .i64 t941)).setCell ⟨go153, (t917 : Int).toNat * 6 + 2, none⟩ (.int .i64 t942)).setCell ⟨go153, (t917 : Int).toNat * 6 + 3, none⟩ (.int .i64 t943)).setCell ⟨go153, (t917 : Int).toNat * 6 + 4, none⟩ (.int .i64 t944)).setCell ⟨go153, (t917 : Int).toNat * 6 + 5, none⟩ (.int .i64 t945)) g893 t891 t946) := ⟨by repeat (first | (with_reducible first | exact HI893.out | apply IsS90.alloc | apply IsS90.drewN | apply IsS90.drew | apply IsS90.set_1 | refine IsS90.far ?_ HN893_go153.out _ | refine IsS90.far ?_ HN893_go153.out _ | refine IsS90.far ?_ HN893_go153.out _ | refine IsS90.far ?_ HN893_go153.out _ | refine IsS90.far ?_ HN893_go153.out _ | refine IsS90.far ?_ HN893_go153.out _ | refine IsS90.far ?_ NB893_889.out _ | refine IsS90.far ?_ NB893_890.out _ | refine IsS90.far ?_ NB893_899.out _ | refine IsS90.far ?_ NB893_904.out _) | exact HI893.out)⟩
           have n7 : Aside0 (Below w.heap.size w ((((((w162.setCell ⟨go153, (t917 : Int).toNat * 6, none⟩ (.int .i64 t940)).setCell ⟨go153, (t917 : Int).toNat * 6 + 1, none⟩ (.int .i64 t941)).setCell ⟨go153, (t917 : Int).toNat * 6 + 2, none⟩ (.int .i64 t942)).setCell ⟨go153, (t917 : Int).toNat * 6 + 3, none⟩ (.int .i64 t943)).setCell ⟨go153, (t917 : Int).toNat * 6 + 4, none⟩ (.int .i64 t944)).setCell ⟨go153, (t917 : Int).toNat * 6 + 5, none⟩ (.int .i64 t945))) := ⟨by repeat (first | (with_reducible first | exact HB.out | apply below_alloc | apply pw_below_drewN | apply below_drew1 | refine below_set ?_ GB153.out | refine below_set ?_ GB153.out | refine below_set ?_ GB153.out | refine below_set ?_ GB153.out | refine below_set ?_ GB153.out | refine below_set ?_ GB153.out | refine below_set ?_ (IsS90.ge HI893.out) | refine below_set ?_ GE889.out | refine below_set ?_ GE890.out | refine below_set ?_ GE899.out | refine below_set ?_ GE904.out) | exact HB.out)⟩
           (try clear HO_900001)
           (try clear HO_905001)
           (try clear BK889)
           (try clear BK890)
           (try clear BK899)
           (try clear BK904)
           (try clear HI893)
           (try clear HB)
           generalize ((((((w162.setCell ⟨go153, (t917 : Int).toNat * 6, none⟩ (.int .i64 t940)).setCell ⟨go153, (t917 : Int).toNat * 6 + 1, none⟩ (.int .i64 t941)).setCell ⟨go153, (t917 : Int).toNat * 6 + 2, none⟩ (.int .i64 t942)).setCell ⟨go153, (t917 : Int).toNat * 6 + 3, none⟩ (.int .i64 t943)).setCell ⟨go153, (t917 : Int).toNat * 6 + 4, none⟩ (.int .i64 t944)).setCell ⟨go153, (t917 : Int).toNat * 6 + 5, none⟩ (.int .i64 t945)) = w164 at n0 n1 n2 n3 n4 n5 n6 n7 ⊢
           have HO_900001 := n0
           have HO_905001 := n1
           have BK889 := n2
           have BK890 := n3
           have BK899 := n4
           have BK904 := n5
           have HI893 := n6
           have HB := n7
           clear n0 n1 n2 n3 n4 n5 n6 n7
           try go_wp2
           have _ := ra (Kd.R_drew HO_900001.out)
           have _ := ra (Kd.R_drew HO_905001.out)
           have _ := ra (blk_drew BK889.out)
           have _ := ra (blk_drew BK890.out)
           have _ := ra (blk_drew BK899.out)
           have _ := ra (blk_drew BK904.out)
           have _ := ra (IsS90.drew HI893.out)
           have _ := ra (below_drew1 HB.out)
           clear HO_900001 HO_905001 BK889 BK890 BK899 BK904 HI893 HB
           rename_i HO_900001 HO_905001 BK889 BK890 BK899 BK904 HI893 HB
           obtain ⟨Ao169, co169, eo169⟩ := Kd.R_slice HO_900001.out
           (first | subst eo169 | (injection eo169 with f1_ f2_ f3_; have f4_ := f1_.symm; have f5_ := f3_.symm; clear f1_ f2_ f3_; subst f4_; subst f5_))
           refine start_ (n := 4) (S := fun w' => w'.cell? ⟨gb904, 0, none⟩ = some (.string t900) ∧ w'.cell? ⟨gb904, 1, none⟩ = some (.slice (some ⟨go153, 0, none⟩) x905001_1.length co82) ∧ w'.cell? ⟨gb899, 0, none⟩ = some (.string t894) ∧ w'.cell? ⟨gb899, 1, none⟩ = some (.slice Ao169 x900001_1.length co169)) (ds := []) (bl 4 0) (by kernel_rfl) rfl rfl ⟨(blk_cell BK904.out 0).trans rfl, (blk_cell BK904.out 1).trans rfl, (blk_cell BK899.out 0).trans rfl, (blk_cell BK899.out 1).trans rfl⟩ (fun hHeld => ?_)
           generalize w164.drew = w165 at HO_900001 HO_905001 BK889 BK890 BK899 BK904 HI893 HB hHeld ⊢
           refine tk 0 129 (bl 4 1) ?_ hHeld
           refine tk 1 130 (bl 4 3) ?_ hHeld
           refine one_ (i := 2) (N := none) #[true, true, true, false] rfl rfl (by kernel_rfl) (by decide) (fun K hK => ?_)
           have hs166 : w165.cell? ⟨gb889, 0, none⟩ = some (.string (⟨#[]⟩ : ByteArray)) := (blk_cell BK889.out 0).trans rfl
           have hfs166 := blk_frozen BK889.out 0
           have hns166_1 := NB890_889.out
           have hns166_2 := NB899_889.out
           have hns166_3 := NB904_889.out
           have hms166_1 := NB889_890.out
           have hms166_2 := NB889_899.out
           have hms166_3 := NB889_904.out
           have hs167 : w165.cell? ⟨gb889, 1, none⟩ = some (.slice none 0 0) := (blk_cell BK889.out 1).trans rfl
           have hfs167 := blk_frozen BK889.out 1
           have hns167_1 := NB890_889.out
           have hns167_2 := NB899_889.out
           have hns167_3 := NB904_889.out
           have hms167_1 := NB889_890.out
           have hms167_2 := NB889_899.out
           have hms167_3 := NB889_904.out
           refine skip_ (w1 := ?_) (by rfl) rfl ?_ ?_
           rotate_left
           ·go_simp
            rfl
           refine hK.out _ _ ⟨((cell_far (p := ⟨gb889, _, none⟩) NB904_889.out _).trans (((cell_far (p := ⟨gb889, _, none⟩) NB904_889.out _).trans (hHeld.1)))), ((cell_far (p := ⟨gb889, _, none⟩) NB904_889.out _).trans (((cell_far (p := ⟨gb889, _, none⟩) NB904_889.out _).trans (hHeld.2.1)))), ((cell_far (p := ⟨gb889, _, none⟩) NB899_889.out _).trans (((cell_far (p := ⟨gb889, _, none⟩) NB899_889.out _).trans (hHeld.2.2.1)))), ((cell_far (p := ⟨gb889, _, none⟩) NB899_889.out _).trans (((cell_far (p := ⟨gb889, _, none⟩) NB899_889.out _).trans (hHeld.2.2.2))))⟩ (fun hHeld => ?_)
           clear hK K
           refine one_ (i := 3) (N := none) #[true, true, true, true] rfl rfl (by kernel_rfl) (by decide) (fun K hK => ?_)
           have hs168 : w165.cell? ⟨gb890, 0, none⟩ = some (.string (⟨#[]⟩ : ByteArray)) := (blk_cell BK890.out 0).trans rfl
           have hfs168 := blk_frozen BK890.out 0
           have hns168_0 := NB889_890.out
           have hns168_2 := NB899_890.out
           have hns168_3 := NB904_890.out
           have hms168_0 := NB890_889.out
           have hms168_2 := NB890_899.out
           have hms168_3 := NB890_904.out
           have hs170 : w165.cell? ⟨gb890, 1, none⟩ = some (.slice none 0 0) := (blk_cell BK890.out 1).trans rfl
           have hfs170 := blk_frozen BK890.out 1
           have hns170_0 := NB889_890.out
           have hns170_2 := NB899_890.out
           have hns170_3 := NB904_890.out
           have hms170_0 := NB890_889.out
           have hms170_2 := NB890_899.out
           have hms170_3 := NB890_904.out
           refine skip_ (w1 := ?_) (by rfl) rfl ?_ ?_
           rotate_left
           ·go_simp
            rfl
           refine hK.out _ _ ⟨((cell_far (p := ⟨gb890, _, none⟩) NB904_890.out _).trans (((cell_far (p := ⟨gb890, _, none⟩) NB904_890.out _).trans (hHeld.1)))), ((cell_far (p := ⟨gb890, _, none⟩) NB904_890.out _).trans (((cell_far (p := ⟨gb890, _, none⟩) NB904_890.out _).trans (hHeld.2.1)))), ((cell_far (p := ⟨gb890, _, none⟩) NB899_890.out _).trans (((cell_far (p := ⟨gb890, _, none⟩) NB899_890.out _).trans (hHeld.2.2.1)))), ((cell_far (p := ⟨gb890, _, none⟩) NB899_890.out _).trans (((cell_far (p := ⟨gb890, _, none⟩) NB899_890.out _).trans (hHeld.2.2.2))))⟩ (fun hHeld => ?_)
           clear hK K
           refine done_ (by kernel_rfl) ?_
           try go_wp2
           refine bodyPost_ret (results_cc rfl _ _ gb889 gb890 39 39 #[.string t900, .slice (some ⟨go153, 0, none⟩) x905001_1.length co82] #[.string t894, .slice Ao169 x900001_1.length co169] (0, 0) (0, 0) _ _ rfl (bp BK889) Try.underlying39 rfl (by kernel_rfl) rfl (bp BK890) Try.underlying39 rfl (by kernel_rfl)) rfl ?_
           exact ⟨_, _, re, by (with_reducible repeat (first | apply Kd.R_alloc | apply Kd.R_drewN | apply Kd.R_drew)); exact Kd.R_mono (rf (Kd.R_types (Kd.R_types HO_905001.out BK889.out (by decide)) BK890.out (by decide))) (fun _ hk => hk.1.1), by (with_reducible repeat (first | apply Kd.R_alloc | apply Kd.R_drewN | apply Kd.R_drew)); exact Kd.R_mono (rf (Kd.R_types (Kd.R_types HO_900001.out BK889.out (by decide)) BK890.out (by decide))) (fun _ hk => hk.1.1), by exact qb HI893 HB⟩
          ·rw [if_neg c152] at H
           exact absurd H (by simp)
         ·rw [if_neg c151] at H
          exact absurd H (by simp)
      ·replace c96 := Bool.eq_false_iff.mpr c96
       subst c96
       have H1 : (some (t900, x905001_1, t894, x900001_1)) = some (r1, r2, r3, r4) := by rw [if_neg (show ¬ (false = true) by decide)] at H; exact H
       clear H
       have H := H1
       clear H1
       simp only [Option.some.injEq, Prod.mk.injEq] at H
       obtain ⟨rfl, rfl, rfl, rfl⟩ := H
       try go_wp2
       have _ := ra (Kd.R_drew HO_900001.out)
       have _ := ra (Kd.R_drew HO_905001.out)
       have _ := ra (blk_drew BK889.out)
       have _ := ra (blk_drew BK890.out)
       have _ := ra (blk_drew BK899.out)
       have _ := ra (blk_drew BK904.out)
       have _ := ra (IsS90.drew HI893.out)
       have _ := ra (below_drew1 HB.out)
       clear HO_900001 HO_905001 BK889 BK890 BK899 BK904 HI893 HB
       rename_i HO_900001 HO_905001 BK889 BK890 BK899 BK904 HI893 HB
       obtain ⟨Ao175, co175, eo175⟩ := Kd.R_slice HO_900001.out
       (first | subst eo175 | (injection eo175 with f1_ f2_ f3_; have f4_ := f1_.symm; have f5_ := f3_.symm; clear f1_ f2_ f3_; subst f4_; subst f5_))
       refine start_ (n := 4) (S := fun w' => w'.cell? ⟨gb904, 0, none⟩ = some (.string t900) ∧ w'.cell? ⟨gb904, 1, none⟩ = some (.slice Ao82 x905001_1.length co82) ∧ w'.cell? ⟨gb899, 0, none⟩ = some (.string t894) ∧ w'.cell? ⟨gb899, 1, none⟩ = some (.slice Ao175 x900001_1.length co175)) (ds := []) (bl 4 0) (by kernel_rfl) rfl rfl ⟨(blk_cell BK904.out 0).trans rfl, (blk_cell BK904.out 1).trans rfl, (blk_cell BK899.out 0).trans rfl, (blk_cell BK899.out 1).trans rfl⟩ (fun hHeld => ?_)
       generalize wc.drew = w171 at HO_900001 HO_905001 BK889 BK890 BK899 BK904 HI893 HB hHeld ⊢
       refine tk 0 129 (bl 4 1) ?_ hHeld
       refine tk 1 130 (bl 4 3) ?_ hHeld
       refine one_ (i := 2) (N := none) #[true, true, true, false] rfl rfl (by kernel_rfl) (by decide) (fun K hK => ?_)
       have hs172 : w171.cell? ⟨gb889, 0, none⟩ = some (.string (⟨#[]⟩ : ByteArray)) := (blk_cell BK889.out 0).trans rfl
       have hfs172 := blk_frozen BK889.out 0
       have hns172_1 := NB890_889.out
       have hns172_2 := NB899_889.out
       have hns172_3 := NB904_889.out
       have hms172_1 := NB889_890.out
       have hms172_2 := NB889_899.out
       have hms172_3 := NB889_904.out
       have hs173 : w171.cell? ⟨gb889, 1, none⟩ = some (.slice none 0 0) := (blk_cell BK889.out 1).trans rfl
       have hfs173 := blk_frozen BK889.out 1
       have hns173_1 := NB890_889.out
       have hns173_2 := NB899_889.out
       have hns173_3 := NB904_889.out
       have hms173_1 := NB889_890.out
       have hms173_2 := NB889_899.out
       have hms173_3 := NB889_904.out
       refine skip_ (w1 := ?_) (by rfl) rfl ?_ ?_
       rotate_left
       ·go_simp
        rfl
       refine hK.out _ _ ⟨((cell_far (p := ⟨gb889, _, none⟩) NB904_889.out _).trans (((cell_far (p := ⟨gb889, _, none⟩) NB904_889.out _).trans (hHeld.1)))), ((cell_far (p := ⟨gb889, _, none⟩) NB904_889.out _).trans (((cell_far (p := ⟨gb889, _, none⟩) NB904_889.out _).trans (hHeld.2.1)))), ((cell_far (p := ⟨gb889, _, none⟩) NB899_889.out _).trans (((cell_far (p := ⟨gb889, _, none⟩) NB899_889.out _).trans (hHeld.2.2.1)))), ((cell_far (p := ⟨gb889, _, none⟩) NB899_889.out _).trans (((cell_far (p := ⟨gb889, _, none⟩) NB899_889.out _).trans (hHeld.2.2.2))))⟩ (fun hHeld => ?_)
       clear hK K
       refine one_ (i := 3) (N := none) #[true, true, true, true] rfl rfl (by kernel_rfl) (by decide) (fun K hK => ?_)
       have hs174 : w171.cell? ⟨gb890, 0, none⟩ = some (.string (⟨#[]⟩ : ByteArray)) := (blk_cell BK890.out 0).trans rfl
       have hfs174 := blk_frozen BK890.out 0
       have hns174_0 := NB889_890.out
       have hns174_2 := NB899_890.out
       have hns174_3 := NB904_890.out
       have hms174_0 := NB890_889.out
       have hms174_2 := NB890_899.out
       have hms174_3 := NB890_904.out
       have hs176 : w171.cell? ⟨gb890, 1, none⟩ = some (.slice none 0 0) := (blk_cell BK890.out 1).trans rfl
       have hfs176 := blk_frozen BK890.out 1
       have hns176_0 := NB889_890.out
       have hns176_2 := NB899_890.out
       have hns176_3 := NB904_890.out
       have hms176_0 := NB890_889.out
       have hms176_2 := NB890_899.out
       have hms176_3 := NB890_904.out
       refine skip_ (w1 := ?_) (by rfl) rfl ?_ ?_
       rotate_left
       ·go_simp
        rfl
       refine hK.out _ _ ⟨((cell_far (p := ⟨gb890, _, none⟩) NB904_890.out _).trans (((cell_far (p := ⟨gb890, _, none⟩) NB904_890.out _).trans (hHeld.1)))), ((cell_far (p := ⟨gb890, _, none⟩) NB904_890.out _).trans (((cell_far (p := ⟨gb890, _, none⟩) NB904_890.out _).trans (hHeld.2.1)))), ((cell_far (p := ⟨gb890, _, none⟩) NB899_890.out _).trans (((cell_far (p := ⟨gb890, _, none⟩) NB899_890.out _).trans (hHeld.2.2.1)))), ((cell_far (p := ⟨gb890, _, none⟩) NB899_890.out _).trans (((cell_far (p := ⟨gb890, _, none⟩) NB899_890.out _).trans (hHeld.2.2.2))))⟩ (fun hHeld => ?_)
       clear hK K
       refine done_ (by kernel_rfl) ?_
       try go_wp2
       refine bodyPost_ret (results_cc rfl _ _ gb889 gb890 39 39 #[.string t900, .slice Ao82 x905001_1.length co82] #[.string t894, .slice Ao175 x900001_1.length co175] (0, 0) (0, 0) _ _ rfl (bp BK889) Try.underlying39 rfl (by kernel_rfl) rfl (bp BK890) Try.underlying39 rfl (by kernel_rfl)) rfl ?_
       exact ⟨_, _, re, by (with_reducible repeat (first | apply Kd.R_alloc | apply Kd.R_drewN | apply Kd.R_drew)); exact Kd.R_mono (rf (Kd.R_types (Kd.R_types HO_905001.out BK889.out (by decide)) BK890.out (by decide))) (fun _ hk => hk.1.1), by (with_reducible repeat (first | apply Kd.R_alloc | apply Kd.R_drewN | apply Kd.R_drew)); exact Kd.R_mono (rf (Kd.R_types (Kd.R_types HO_900001.out BK889.out (by decide)) BK890.out (by decide))) (fun _ hk => hk.1.1), by exact qb HI893 HB⟩
end Go.Proofs.Ytfoapgcnjnogiaa.PA
