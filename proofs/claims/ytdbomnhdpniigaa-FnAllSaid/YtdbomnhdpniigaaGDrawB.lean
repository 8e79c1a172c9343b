/- Contracts of the functions spec_l2Tube, spec_l2SpoilTube. (Began as a print of the kit's tool.) -/
import Derived.Test.YtdbomnhdpniigaaPAd
import Derived.Test.YtdbomnhdpniigaaCx
import Derived.Test.YtdbomnhdpniigaaCz
import Derived.Test.YtdbomnhdpniigaaCy
import Derived.Test.YtdbomnhdpniigaaGDrawA
import Derived.Test.YtdbomnhdpniigaaGDrawA
import Derived.Test.YtdbomnhdpniigaaGBase
namespace Go.Proofs.Ytdbomnhdpniigaa.PA
open Go.RowKit Go.Proofs.YtdbomnhdpniigaaW.PrintWords Go.Proofs.YtdbomnhdpniigaaW.PrintLast Go.Proofs.YtdbomnhdpniigaaW.PrintMore Go.Proofs.Ytdbomnhdpniigaa.Z
attribute [local go_sem] max2_int min2_int max_two min_two max_three min_three max_four min_four
set_option linter.unusedVariables false
set_option linter.unusedSimpArgs false
def spec_l2Tube.T15 : Bool × List (List Nat × List Nat) := (true, [([], []), ([0], [0]), ([1], [1]), ([], []), ([3], [3]), ([2, 4], [2, 4]), ([0, 1, 2, 3, 4, 5], []), ([6, 5, 4, 0, 1, 2, 3, 4, 5], [5, 6])])
def spec_l2Tube.B15 : List Nat := [0, 1, 3, 0, 8, 31, 63, 127]
theorem spec_l2Tube.tab15 : rtab .any (opsOf Try.f106 15) = spec_l2Tube.T15 := by kernel_rfl
theorem spec_l2Tube.bits15 : waitsOk spec_l2Tube.T15.2 spec_l2Tube.B15 = true := by kernel_rfl
def spec_l2Tube.T16 : Bool × List (List Nat × List Nat) := (true, [([], []), ([0], [0]), ([1], [1]), ([], []), ([3], [3]), ([2, 4], [2, 4]), ([0, 1, 2, 3, 4, 5], []), ([6, 5, 4, 0, 1, 2, 3, 4, 5], [5, 6])])
def spec_l2Tube.B16 : List Nat := [0, 1, 3, 0, 8, 31, 63, 127]
theorem spec_l2Tube.tab16 : rtab .any (opsOf Try.f106 16) = spec_l2Tube.T16 := by kernel_rfl
theorem spec_l2Tube.bits16 : waitsOk spec_l2Tube.T16.2 spec_l2Tube.B16 = true := by kernel_rfl
def spec_l2Tube.T21 : Bool × List (List Nat × List Nat) := (true, [([], []), ([0], [0]), ([], []), ([2], [2]), ([3], [3]), ([1, 4, 3], [1, 4]), ([0, 1, 2, 3, 4, 5], []), ([6, 5, 5, 0, 1, 2, 3, 4, 5], [5, 6])])
def spec_l2Tube.B21 : List Nat := [0, 1, 0, 4, 12, 31, 63, 127]
theorem spec_l2Tube.tab21 : rtab .any (opsOf Try.f106 21) = spec_l2Tube.T21 := by kernel_rfl
theorem spec_l2Tube.bits21 : waitsOk spec_l2Tube.T21.2 spec_l2Tube.B21 = true := by kernel_rfl
set_option maxHeartbeats 8000000 in
set_option maxRecDepth 100000 in
theorem spec_l2Tube.calls (k : Nat) (g : Nat) (s0_0 : List Int) (s0_1 : Int) (a1 : ByteArray) (r1 : ByteArray) (r2 : List (S95)) (r3 : Int) (w0 w : World) (hI : IsS127 w0 w g s0_0 s0_1) (hB : Below w0.heap.size w0 w) (h : spec_l2Tube.f k s0_0 s0_1 a1 = some (r1, r2, r3)) :
  Calls Try.prog 106 #[.pointer (some ⟨g, 0, none⟩), .string a1] w fun e w' => ∃ v1_ : Value, e = .returned (.agg #[.string r1, v1_]) ∧ Kd.R k95 95 w' w.heap.size (fun _ => True) v1_ r2 ∧ IsS127 w0 w' g s0_0 r3 ∧ Below w0.heap.size w0 w' ∧ KeepBut w w' g none := by
 have hu40 := Try.underlying40
 have hu95 := Try.underlying95
 have HI0 := Aside0.mk hI
 have HK := ra (KeepBut.refl w g none)
 have HL := Aside0.mk hB.size
 clear hI
 have HW0 := Aside0.mk hB.size
 have HB := Aside0.mk hB
 clear hB
 have H : ((spec_l1DrawBox.f k s0_0 s0_1).bind fun bt431 => ((spec_l1Rd_pick.f k s0_0 bt431.2.2.2.2.2.2 7).bind fun bt439 => (spec_l2Tube.l0 k bt439.1 s0_0 bt439.2 a1 ([] : List (S95)) bt431.1 bt431.2.1 bt431.2.2.1 bt431.2.2.2.1 bt431.2.2.2.2.1 bt431.2.2.2.2.2.1))) = some (r1, r2, r3) := h
 clear h
 obtain ⟨⟨t431, t432, t433, t434, t435, t436, t437⟩, A3, H⟩ := bo H
 try dsimp only at H
 obtain ⟨⟨t439, t440⟩, A4, H⟩ := bo H
 try dsimp only at H
 have H' := Aside0.mk H
 clear H
 go_enter Try.func106, Try.ntmps106
 go_wp2_with (first | ((with_reducible refine gate_dst (N := 4) rfl ?_); refine be 4 #[.string (⟨#[]⟩ : ByteArray), .slice none 0 0] 40 ?_; intro gb429 hg w5 hbox hb; have _ := ra (IsS127.below (qi HI0) hb); have _ := kt (qk _ _ _ HK) hb; have _ := ra (below_step (qb HI0 HB) hb); have _ := ra (hbox); have _ := ns hg (qk w _ g HK); have _ := nt hg HW0 (qk w _ g HK); have _ := nl hg (qi HI0); have _ := nr hg (qi HI0); clear HI0 HK HB; rename_i HI0 HK HB BK429 GW429 GE429 NB0_429 NB429_0; clear hb hbox hg) | ((with_reducible refine gate_dst (N := 5) rfl ?_); refine be 5 #[.string (⟨#[]⟩ : ByteArray), .slice none 0 0] 40 ?_; intro gb430 hg w6 hbox hb; have _ := ra (IsS127.below (qi HI0) hb); have _ := bb (bk BK429) hb; have _ := kt (qk _ _ _ HK) hb; have _ := ra (below_step (qb HI0 HB) hb); have _ := ra (hbox); have _ := ns hg (qk w _ g HK); have _ := nt hg HW0 (qk w _ g HK); have _ := bn hg (bk BK429); have _ := bm hg (bk BK429); have _ := nl hg (qi HI0); have _ := nr hg (qi HI0); clear HI0 BK429 HK HB; rename_i HI0 BK429 HK HB BK430 GW430 GE430 NB429_430 NB430_429 NB0_430 NB430_0; clear hb hbox hg; have hnb7 := NB430_429.out; have hnc7 := NB429_430.out; have hnb8 := NB430_0.out; have hnc8 := NB0_430.out; obtain ⟨hcz9_0, hcz9_1, hfz9_0, hfz9_1⟩ := zc2 BK430) | ((with_reducible refine gate_callee (f := 110) rfl ?_); refine gl (some 13) Try.func110 #[.pointer (some ⟨g, 0, none⟩)] ?_; (with_reducible refine (spec_l1DrawBox.calls k g s0_0 s0_1 t431 t432 t433 t434 t435 t436 t437 w0 _ ?side1 ?side2 A3.out).mono ?_); (case side1 => exact qi HI0); (case side2 => exact qb HI0 HB); rintro e w10 ⟨rfl, hi, hb, hk⟩; refine ⟨_, rfl, ?_⟩; have _ := kv hk (bk BK429) NB429_0; have _ := ra (KeepBut.blk hk (g' := gb430) (o := .cells #[.string a1, .slice none 0 0] 40 (0, 0)) (bp BK430) NB430_0.out (by simp)); have _ := ku (qk _ _ _ HK) hk; have _ := ra (hb); have _ := ra (hi); clear BK429 BK430 HK HB HI0; rename_i BK429 BK430 HK HB HI0; (try clear hb); (try clear hb2); (try clear hk); (try clear hi)) | ((with_reducible refine gate_dst (N := 6) rfl ?_); refine be 6 #[.int .i64 0, .int .i64 0, .int .i64 0, .int .i64 0, .int .i64 0, .int .i64 0] 95 ?_; intro gb438 hg w11 hbox hb; have _ := ra (IsS127.below (qi HI0) hb); have _ := bb (bk BK429) hb; have _ := bb (bk BK430) hb; have _ := kt (qk _ _ _ HK) hb; have _ := ra (below_step (qb HI0 HB) hb); have _ := ra (hbox); have _ := ns hg (qk w _ g HK); have _ := nt hg HW0 (qk w _ g HK); have _ := bn hg (bk BK429); have _ := bm hg (bk BK429); have _ := bn hg (bk BK430); have _ := bm hg (bk BK430); have _ := nl hg (qi HI0); have _ := nr hg (qi HI0); clear HI0 BK429 BK430 HK HB; rename_i HI0 BK429 BK430 HK HB BK438 GW438 GE438 NB429_438 NB438_429 NB430_438 NB438_430 NB0_438 NB438_0; clear hb hbox hg; have hnb12 := NB438_429.out; have hnc12 := NB429_438.out; have hnb13 := NB438_430.out; have hnc13 := NB430_438.out; have hnb14 := NB438_0.out; have hnc14 := NB0_438.out; obtain ⟨hcz15_0, hcz15_1, hcz15_2, hcz15_3, hcz15_4, hcz15_5, hfz15_0, hfz15_1, hfz15_2, hfz15_3, hfz15_4, hfz15_5⟩ := zc6 BK438) | ((with_reducible refine gate_callee (f := 87) rfl ?_); refine gl (some 15) Try.func87 #[.pointer (some ⟨g, 0, none⟩), .int .i64 7] ?_; (with_reducible refine (spec_l1Rd_pick.calls k g s0_0 t437 7 t439 t440 w0 _ ?side1 ?side2 A4.out).mono ?_); (case side1 => exact qi HI0); (case side2 => exact qb HI0 HB); rintro e w16 ⟨rfl, hi, hb, hk⟩; refine ⟨_, rfl, ?_⟩; have _ := kv hk (bk BK429) NB429_0; have _ := kv hk (bk BK430) NB430_0; have _ := ra (KeepBut.blk hk (g' := gb438) (o := .cells #[.int .i64 t431, .int .i64 t432, .int .i64 t433, .int .i64 t434, .int .i64 t435, .int .i64 t436] 95 (0, 0)) (bp BK438) NB438_0.out (by simp)); have _ := ku (qk _ _ _ HK) hk; have _ := ra (hb); have _ := ra (hi); clear BK429 BK430 BK438 HK HB HI0; rename_i BK429 BK430 BK438 HK HB HI0; (try clear hb); (try clear hb2); (try clear hk); (try clear hi)))
 go_loopg [7] k (fun kq v7 w' => ∃ (x7_1 : Int) (x1001_1 : Int) (x431001_1 : List (S95)) (x439000_1 : Int) (x439001_1 : Int) (x439002_1 : Int) (x439003_1 : Int) (x439004_1 : Int) (x439005_1 : Int) (u431001 : Value), v7 = .int .i64 x7_1 ∧ Aside0 (spec_l2Tube.l0 kq x7_1 s0_0 x1001_1 a1 x431001_1 x439000_1 x439001_1 x439002_1 x439003_1 x439004_1 x439005_1 = some (r1, r2, r3)) ∧ Aside0 (kq ≤ k) ∧ Aside0 (Kd.R k95 95 w' w.heap.size (fun k_ => k_ ≠ gb438) u431001 x431001_1) ∧ Aside0 (w'.heap[gb429]? = some (.cells #[.string (⟨#[]⟩ : ByteArray), (.slice none 0 0)] 40 (0, 0))) ∧ Aside0 (w'.heap[gb430]? = some (.cells #[.string a1, u431001] 40 (0, 0))) ∧ Aside0 (w'.heap[gb438]? = some (.cells #[.int .i64 x439000_1, .int .i64 x439001_1, .int .i64 x439002_1, .int .i64 x439003_1, .int .i64 x439004_1, .int .i64 x439005_1] 95 (0, 0))) ∧ Aside0 (IsS127 w0 w' g s0_0 x1001_1) ∧ Aside0 (KeepBut w w' g none) ∧ Aside0 (Below w0.heap.size w0 w'))
 case atStart => exact ⟨(t439), (t440), (([] : List (S95))), (t431), (t432), (t433), (t434), (t435), (t436), (.slice none 0 0), rs, H', ⟨Nat.le_refl _⟩, ⟨by first | exact Kd.R_nil _ _ _ _ _ | exact Kd.N_nil _ _ _ _ _ | exact Kd.V_nil _ _ _ _ _ | exact Kd.Q_nil _ _ _ _ _ | exact Kd.S_nil _ _ _ _ _⟩, ⟨bk BK429⟩, ⟨bk BK430⟩, ⟨bk BK438⟩, ⟨by exact qi HI0⟩, ⟨by exact qk _ _ _ HK⟩, ⟨by exact qb HI0 HB⟩⟩
 case round =>
  clear H'
  try clear hcz15_0
  try clear hcz15_1
  try clear hcz15_2
  try clear hcz15_3
  try clear hcz15_4
  try clear hcz15_5
  try clear hcz9_0
  try clear hcz9_1
  try clear hfz15_0
  try clear hfz15_1
  try clear hfz15_2
  try clear hfz15_3
  try clear hfz15_4
  try clear hfz15_5
  try clear hfz9_0
  try clear hfz9_1
  obtain ⟨x7_1, x1001_1, x431001_1, x439000_1, x439001_1, x439002_1, x439003_1, x439004_1, x439005_1, u431001, rfl, HA, HK1, HO_431001, BK429, BK430, BK438, HI0, HK, HB⟩ := hrel
  cases gk with
  | zero => exact absurd HA.out (by simp [spec_l2Tube.l0])
  | succ k1 =>
   have H := HA.out
   clear HA
   simp only [spec_l2Tube.l0] at H
   by_cases c17 : x7_1 > 0
   ·rw [if_pos c17] at H
    have c17b0 : decide (0 < x7_1) = true := decide_eq_true c17
    clear c17
    by_cases c18 : x431001_1.length < 2932031007402
    ·rw [if_pos c18] at H
     have LMc18 := Aside0.mk c18
     clear c18
     obtain ⟨y441, hy_⟩ : ∃ y_ : List (S95), y_ = (x431001_1 ++ [(⟨x439000_1, x439001_1, x439002_1, x439003_1, x439004_1, x439005_1⟩ : S95)]) := ⟨_, rfl⟩
     replace H : ((spec_l1Rd_pick.f k1 s0_0 x1001_1 10).bind fun bt444 => (if bt444.1 = 0 then ((spec_l1DrawBox.f k1 s0_0 bt444.2).bind fun bt446 => (spec_l2Tube.l0 k1 (wrap64 (x7_1 - 1)) s0_0 bt446.2.2.2.2.2.2 a1 y441 bt446.1 bt446.2.1 bt446.2.2.1 bt446.2.2.2.1 bt446.2.2.2.2.1 bt446.2.2.2.2.2.1)) else ((spec_l1Rd_pick.f k1 s0_0 bt444.2 3).bind fun bt453 => ((spec_l1Rd_pick.f k1 s0_0 bt453.2 3).bind fun bt455 => ((spec_l1In.f (wrap64 ((wrap64 (x439000_1 + bt453.1)) - 1)) 0 15).bind fun t457 => (if t457 = true then ((spec_l1In.f (wrap64 ((wrap64 (x439001_1 + bt455.1)) - 1)) 0 15).bind fun t458 => (spec_l2Tube.j1 k1 x7_1 (wrap64 ((wrap64 (x439000_1 + bt453.1)) - 1)) (wrap64 ((wrap64 (x439001_1 + bt455.1)) - 1)) t458 s0_0 bt455.2 a1 y441 x439000_1 x439001_1 x439002_1 x439003_1 x439004_1 x439005_1)) else (spec_l2Tube.j1 k1 x7_1 (wrap64 ((wrap64 (x439000_1 + bt453.1)) - 1)) (wrap64 ((wrap64 (x439001_1 + bt455.1)) - 1)) false s0_0 bt455.2 a1 y441 x439000_1 x439001_1 x439002_1 x439003_1 x439004_1 x439005_1))))))) = some (r1, r2, r3) := yh
     have Ny441 := ra hy_
     clear hy_
     obtain ⟨⟨t444, t445⟩, A19, H⟩ := bo H
     try dsimp only at H
     by_cases c20 : t444 = 0
     ·rw [if_pos c20] at H
      have c20b0 : (t444 == 0) = true := beq_iff_eq.mpr c20
      have c20b1 : (t444 != 0) = false := bne_eq_false_iff_eq.mpr c20
      clear c20
      obtain ⟨⟨t446, t447, t448, t449, t450, t451, t452⟩, A21, H⟩ := bo H
      try dsimp only at H
      have H' := Aside0.mk H
      clear H
      have hnb22 := NB430_429.out
      have hnc22 := NB429_430.out
      have hnb23 := NB430_438.out
      have hnc23 := NB438_430.out
      have hnb24 := NB430_0.out
      have hnc24 := NB0_430.out
      obtain ⟨hcz25_0, hcz25_1, hfz25_0, hfz25_1⟩ := zc2 BK430
      have hnb26 := NB438_429.out
      have hnc26 := NB429_438.out
      have hnb27 := NB438_0.out
      have hnc27 := NB0_438.out
      obtain ⟨hcz28_0, hcz28_1, hcz28_2, hcz28_3, hcz28_4, hcz28_5, hfz28_0, hfz28_1, hfz28_2, hfz28_3, hfz28_4, hfz28_5⟩ := zc6 BK438
      go_wp2_with (first | ((with_reducible refine gate_builtin (b := .append) (xs := #[.tmp 21, .tmp 23]) rfl ?_); at_builtin; refine Kd.R_append k95 w.heap.size rfl (.tmp 21) (.tmp 23) 38 95 (.agg #[(.int .i64 0), (.int .i64 0), (.int .i64 0), (.int .i64 0), (.int .i64 0), (.int .i64 0)]) 48 rfl Try.underlying38 info95 rfl (by decide) (by omega) u431001 x431001_1 (⟨x439000_1, x439001_1, x439002_1, x439003_1, x439004_1, x439005_1⟩ : S95) [.int .i64 x439000_1, .int .i64 x439001_1, .int .i64 x439002_1, .int .i64 x439003_1, .int .i64 x439004_1, .int .i64 x439005_1] (fun k_ => k_ ≠ gb438) (fun _ => False) rfl rfl ?aP (fun _ hk => hk.elim) ?aF ?aO (Below.refl _ _) ?aS ?aL ?_; (case aP => exact k95_mkM _ _ _ (⟨x439000_1, x439001_1, x439002_1, x439003_1, x439004_1, x439005_1⟩ : S95)); (case aF => exact (fun k_ hk => Kd.freshB (g := gb438) (o := .cells #[.int .i64 x439000_1, .int .i64 x439001_1, .int .i64 x439002_1, .int .i64 x439003_1, .int .i64 x439004_1, .int .i64 x439005_1] 95 (0, 0)) (bk BK438) k_ hk)); (case aO => exact (rq HO_431001)); (case aS => exact (keep_size (w := w) (g := g) (row := none) (qk _ _ _ HK))); (case aL => have := LMc18.out; omega); intro v442 w29 ho hb hg hat; rw [← Ny441.out] at ho; have _ := ra (blk_grown (g := gb429) (o := .cells #[.string (⟨#[]⟩ : ByteArray), .slice none 0 0] 40 (0, 0)) (bk BK429) hg (Kd.R_ne HO_431001.out BK429.out (by decide))); have _ := ra (blk_grown (g := gb430) (o := .cells #[.string a1, u431001] 40 (0, 0)) (bk BK430) hg (Kd.R_ne HO_431001.out BK430.out (by decide))); have _ := ra (blk_grown (g := gb438) (o := .cells #[.int .i64 x439000_1, .int .i64 x439001_1, .int .i64 x439002_1, .int .i64 x439003_1, .int .i64 x439004_1, .int .i64 x439005_1] 95 (0, 0)) (bk BK438) hg (Kd.R_away HO_431001.out (fun _ hk => hk))); have _ := ra (IsS127.grown (qi HI0) hg (IsS127.own_ne HI0.out HO_431001.out (by decide))); have _ := ra (below_weaken (qb HI0 HB) HL.out hb); have _ := ra (KeepBut.trans (qk _ _ _ HK) (KeepBut.of_grown hg g) (Kd.R_base2 HO_431001.out)); have _ := ra (ho); clear BK429 BK430 BK438 HI0 HB HK HO_431001; rename_i BK429 BK430 BK438 HI0 HB HK HO443; clear ho hb hg hat; obtain ⟨Ao30, co30, eo30⟩ := Kd.R_slice HO443.out; subst eo30; obtain ⟨hcz31_0, hcz31_1, hfz31_0, hfz31_1⟩ := zc2 BK430) | ((with_reducible refine gate_callee (f := 87) rfl ?_); refine gl (some 27) Try.func87 #[.pointer (some ⟨g, 0, none⟩), .int .i64 10] ?_; (with_reducible refine (spec_l1Rd_pick.calls k1 g s0_0 x1001_1 10 t444 t445 w0 _ ?side1 ?side2 A19.out).mono ?_); (case side1 => exact qi HI0); (case side2 => exact qb HI0 HB); rintro e w32 ⟨rfl, hi, hb, hk⟩; refine ⟨_, rfl, ?_⟩; have _ := kv hk (bk BK429) NB429_0; have _ := ra (KeepBut.blk hk (g' := gb430) (o := .cells #[.string a1, .slice Ao30 y441.length co30] 40 (0, 0)) (bp BK430) NB430_0.out (by simp)); have _ := kv hk (bk BK438) NB438_0; have _ := ra (Kd.R_mono (Kd.R_keep (IsS127.apart (show IsS127 w0 _ g s0_0 x1001_1 from qi HI0) (Kd.R_mono (rf (Kd.R_types HO443.out BK430.out (by decide))) (fun _ h_ => h_.1)) (by decide)) hk (fun _ h => h.2)) (fun _ h => h.1)); have _ := ku (qk _ _ _ HK) hk; have _ := ra (hb); have _ := ra (hi); clear BK429 BK430 BK438 HO443 HK HB HI0; rename_i BK429 BK430 BK438 HO443 HK HB HI0; (try clear hb); (try clear hb2); (try clear hk); (try clear hi)) | ((with_reducible refine gate_callee (f := 110) rfl ?_); refine gl (some 30) Try.func110 #[.pointer (some ⟨g, 0, none⟩)] ?_; (with_reducible refine (spec_l1DrawBox.calls k1 g s0_0 t445 t446 t447 t448 t449 t450 t451 t452 w0 _ ?side1 ?side2 A21.out).mono ?_); (case side1 => exact qi HI0); (case side2 => exact qb HI0 HB); rintro e w33 ⟨rfl, hi, hb, hk⟩; refine ⟨_, rfl, ?_⟩; have _ := kv hk (bk BK429) NB429_0; have _ := kv hk (bk BK430) NB430_0; have _ := kv hk (bk BK438) NB438_0; have _ := ra (Kd.R_mono (Kd.R_keep (IsS127.apart (show IsS127 w0 _ g s0_0 t445 from qi HI0) (rq HO443) (by decide)) hk (fun _ h => h.2)) (fun _ h => h.1)); have _ := ku (qk _ _ _ HK) hk; have _ := ra (hb); have _ := ra (hi); clear BK429 BK430 BK438 HO443 HK HB HI0; rename_i BK429 BK430 BK438 HO443 HK HB HI0; (try clear hb); (try clear hb2); (try clear hk); (try clear hi); obtain ⟨hcz34_0, hcz34_1, hcz34_2, hcz34_3, hcz34_4, hcz34_5, hfz34_0, hfz34_1, hfz34_2, hfz34_3, hfz34_4, hfz34_5⟩ := zc6 BK438))
      go_roundg k1
      case measure => have := HK1.out; omega
      case rel => exact ⟨(wrap64 (x7_1 - 1)), (t452), (y441), (t446), (t447), (t448), (t449), (t450), (t451), (.slice Ao30 y441.length co30), rs, H', ⟨by have := HK1.out; omega⟩, ⟨by (with_reducible repeat (first | apply Kd.R_alloc | apply Kd.R_drewN | apply Kd.R_drew)); exact Kd.R_mono (rf (Kd.R_mono HO443.out (fun k_ hk => (⟨hk, hk⟩ : _ ∧ k_ ≠ gb438)))) (fun _ hk => hk.1)⟩, ⟨bk BK429⟩, ⟨bk BK430⟩, ⟨bp BK438⟩, ⟨by exact qi HI0⟩, ⟨by exact qk _ _ _ HK⟩, ⟨by exact qb HI0 HB⟩⟩
     ·rw [if_neg c20] at H
      have c20b0 : (t444 == 0) = false := beq_eq_false_iff_ne.mpr c20
      have c20b1 : (t444 != 0) = true := bne_iff_ne.mpr c20
      obtain ⟨⟨t453, t454⟩, A35, H⟩ := bo H
      try dsimp only at H
      obtain ⟨⟨t455, t456⟩, A36, H⟩ := bo H
      try dsimp only at H
      have HC37 := Aside0.mk H
      clear H
      have hnb38 := NB430_429.out
      have hnc38 := NB429_430.out
      have hnb39 := NB430_438.out
      have hnc39 := NB438_430.out
      have hnb40 := NB430_0.out
      have hnc40 := NB0_430.out
      obtain ⟨hcz41_0, hcz41_1, hfz41_0, hfz41_1⟩ := zc2 BK430
      have hnb42 := NB438_429.out
      have hnc42 := NB429_438.out
      have hnb43 := NB438_0.out
      have hnc43 := NB0_438.out
      obtain ⟨hcz44_0, hcz44_1, hcz44_2, hcz44_3, hcz44_4, hcz44_5, hfz44_0, hfz44_1, hfz44_2, hfz44_3, hfz44_4, hfz44_5⟩ := zc6 BK438
      try go_wp2_with (first | ((with_reducible refine gate_builtin (b := .append) (xs := #[.tmp 21, .tmp 23]) rfl ?_); at_builtin; refine Kd.R_append k95 w.heap.size rfl (.tmp 21) (.tmp 23) 38 95 (.agg #[(.int .i64 0), (.int .i64 0), (.int .i64 0), (.int .i64 0), (.int .i64 0), (.int .i64 0)]) 48 rfl Try.underlying38 info95 rfl (by decide) (by omega) u431001 x431001_1 (⟨x439000_1, x439001_1, x439002_1, x439003_1, x439004_1, x439005_1⟩ : S95) [.int .i64 x439000_1, .int .i64 x439001_1, .int .i64 x439002_1, .int .i64 x439003_1, .int .i64 x439004_1, .int .i64 x439005_1] (fun k_ => k_ ≠ gb438) (fun _ => False) rfl rfl ?aP (fun _ hk => hk.elim) ?aF ?aO (Below.refl _ _) ?aS ?aL ?_; (case aP => exact k95_mkM _ _ _ (⟨x439000_1, x439001_1, x439002_1, x439003_1, x439004_1, x439005_1⟩ : S95)); (case aF => exact (fun k_ hk => Kd.freshB (g := gb438) (o := .cells #[.int .i64 x439000_1, .int .i64 x439001_1, .int .i64 x439002_1, .int .i64 x439003_1, .int .i64 x439004_1, .int .i64 x439005_1] 95 (0, 0)) (bk BK438) k_ hk)); (case aO => exact (rq HO_431001)); (case aS => exact (keep_size (w := w) (g := g) (row := none) (qk _ _ _ HK))); (case aL => have := LMc18.out; omega); intro v442 w45 ho hb hg hat; rw [← Ny441.out] at ho; have _ := ra (blk_grown (g := gb429) (o := .cells #[.string (⟨#[]⟩ : ByteArray), .slice none 0 0] 40 (0, 0)) (bk BK429) hg (Kd.R_ne HO_431001.out BK429.out (by decide))); have _ := ra (blk_grown (g := gb430) (o := .cells #[.string a1, u431001] 40 (0, 0)) (bk BK430) hg (Kd.R_ne HO_431001.out BK430.out (by decide))); have _ := ra (blk_grown (g := gb438) (o := .cells #[.int .i64 x439000_1, .int .i64 x439001_1, .int .i64 x439002_1, .int .i64 x439003_1, .int .i64 x439004_1, .int .i64 x439005_1] 95 (0, 0)) (bk BK438) hg (Kd.R_away HO_431001.out (fun _ hk => hk))); have _ := ra (IsS127.grown (qi HI0) hg (IsS127.own_ne HI0.out HO_431001.out (by decide))); have _ := ra (below_weaken (qb HI0 HB) HL.out hb); have _ := ra (KeepBut.trans (qk _ _ _ HK) (KeepBut.of_grown hg g) (Kd.R_base2 HO_431001.out)); have _ := ra (ho); clear BK429 BK430 BK438 HI0 HB HK HO_431001; rename_i BK429 BK430 BK438 HI0 HB HK HO443; clear ho hb hg hat; obtain ⟨Ao46, co46, eo46⟩ := Kd.R_slice HO443.out; subst eo46; obtain ⟨hcz47_0, hcz47_1, hfz47_0, hfz47_1⟩ := zc2 BK430) | ((with_reducible refine gate_callee (f := 87) rfl ?_); refine gl (some 27) Try.func87 #[.pointer (some ⟨g, 0, none⟩), .int .i64 10] ?_; (with_reducible refine (spec_l1Rd_pick.calls k1 g s0_0 x1001_1 10 t444 t445 w0 _ ?side1 ?side2 A19.out).mono ?_); (case side1 => exact qi HI0); (case side2 => exact qb HI0 HB); rintro e w48 ⟨rfl, hi, hb, hk⟩; refine ⟨_, rfl, ?_⟩; have _ := kv hk (bk BK429) NB429_0; have _ := ra (KeepBut.blk hk (g' := gb430) (o := .cells #[.string a1, .slice Ao46 y441.length co46] 40 (0, 0)) (bp BK430) NB430_0.out (by simp)); have _ := kv hk (bk BK438) NB438_0; have _ := ra (Kd.R_mono (Kd.R_keep (IsS127.apart (show IsS127 w0 _ g s0_0 x1001_1 from qi HI0) (Kd.R_mono (rf (Kd.R_types HO443.out BK430.out (by decide))) (fun _ h_ => h_.1)) (by decide)) hk (fun _ h => h.2)) (fun _ h => h.1)); have _ := ku (qk _ _ _ HK) hk; have _ := ra (hb); have _ := ra (hi); clear BK429 BK430 BK438 HO443 HK HB HI0; rename_i BK429 BK430 BK438 HO443 HK HB HI0; (try clear hb); (try clear hb2); (try clear hk); (try clear hi)))
      have _ := ra (Kd.R_drew HO443.out)
      have _ := ra (blk_drew BK429.out)
      have _ := ra (blk_drew BK430.out)
      have _ := ra (blk_drew BK438.out)
      have _ := ra (IsS127.drew HI0.out)
      have _ := ra (keep_drew HK.out)
      have _ := ra (below_drew1 HB.out)
      clear HO443 BK429 BK430 BK438 HI0 HK HB
      rename_i HO443 BK429 BK430 BK438 HI0 HK HB
      refine start_ (n := 7) (S := fun w' => w'.cell? ⟨gb438, 0, none⟩ = some (.int .i64 x439000_1) ∧ w'.cell? ⟨gb438, 1, none⟩ = some (.int .i64 x439001_1) ∧ w'.cell? ⟨gb438, 2, none⟩ = some (.int .i64 x439002_1) ∧ w'.cell? ⟨gb438, 3, none⟩ = some (.int .i64 x439003_1) ∧ w'.cell? ⟨gb438, 4, none⟩ = some (.int .i64 x439004_1) ∧ w'.cell? ⟨gb438, 5, none⟩ = some (.int .i64 x439005_1)) (ds := []) (bl 7 0) (by kernel_rfl) rfl rfl ⟨(blk_cell BK438.out 0).trans rfl, (blk_cell BK438.out 1).trans rfl, (blk_cell BK438.out 2).trans rfl, (blk_cell BK438.out 3).trans rfl, (blk_cell BK438.out 4).trans rfl, (blk_cell BK438.out 5).trans rfl⟩ (fun hHeld => ?_)
      generalize w48.drew = w49 at HO443 BK429 BK430 BK438 HI0 HK HB hHeld ⊢
      refine pu 0 31 (bl 7 1) ?_
      refine pu 2 33 (bl 7 5) ?_
      refine tk 1 32 (bl 7 7) ?_ hHeld
      refine oe 3 34 (bl 7 15) (fun K hK => ?_)
      refine gs Try.func87 #[.pointer (some ⟨g, 0, none⟩), .int .i64 3] ?_
      with_reducible refine (spec_l1Rd_pick.calls k1 g s0_0 t445 3 t453 t454 w0 _ ?side1 ?side2 A35.out).mono ?_
      (case side1 => exact qi HI0)
      (case side2 => exact qb HI0 HB)
      rintro e w50 ⟨rfl, hi, hb, hk⟩
      refine ⟨_, rfl, ?_⟩
      have _ := kv hk (bk BK429) NB429_0
      have _ := kv hk (bk BK430) NB430_0
      have _ := kv hk (bk BK438) NB438_0
      have _ := ra (Kd.R_mono (Kd.R_keep (IsS127.apart (show IsS127 w0 _ g s0_0 t445 from qi HI0) (rq HO443) (by decide)) hk (fun _ h => h.2)) (fun _ h => h.1))
      have _ := ku (qk _ _ _ HK) hk
      have _ := ra (hb)
      have _ := ra (hi)
      clear BK429 BK430 BK438 HO443 HK HB HI0
      rename_i BK429 BK430 BK438 HO443 HK HB HI0
      (try clear hb)
      (try clear hb2)
      (try clear hk)
      (try clear hi)
      refine hK.out _ _ ⟨(blk_cell BK438.out 0).trans rfl, (blk_cell BK438.out 1).trans rfl, (blk_cell BK438.out 2).trans rfl, (blk_cell BK438.out 3).trans rfl, (blk_cell BK438.out 4).trans rfl, (blk_cell BK438.out 5).trans rfl⟩ (fun hHeld => ?_)
      clear hK K
      refine nm 34 ?_
      refine pu 4 35 (bl 7 31) ?_
      refine pu 5 36 (bl 7 63) ?_
      refine pu 6 8 (bl 7 127) ?_
      refine done_ (by kernel_rfl) ?_
      try go_wp2
      have _ := ra (Kd.R_drew HO443.out)
      have _ := ra (blk_drew BK429.out)
      have _ := ra (blk_drew BK430.out)
      have _ := ra (blk_drew BK438.out)
      have _ := ra (IsS127.drew HI0.out)
      have _ := ra (keep_drew HK.out)
      have _ := ra (below_drew1 HB.out)
      clear HO443 BK429 BK430 BK438 HI0 HK HB
      rename_i HO443 BK429 BK430 BK438 HI0 HK HB
      refine start_ (n := 7) (S := fun w' => w'.cell? ⟨gb438, 0, none⟩ = some (.int .i64 x439000_1) ∧ w'.cell? ⟨gb438, 1, none⟩ = some (.int .i64 x439001_1) ∧ w'.cell? ⟨gb438, 2, none⟩ = some (.int .i64 x439002_1) ∧ w'.cell? ⟨gb438, 3, none⟩ = some (.int .i64 x439003_1) ∧ w'.cell? ⟨gb438, 4, none⟩ = some (.int .i64 x439004_1) ∧ w'.cell? ⟨gb438, 5, none⟩ = some (.int .i64 x439005_1)) (ds := []) (bl 7 0) (by kernel_rfl) rfl rfl ⟨(blk_cell BK438.out 0).trans rfl, (blk_cell BK438.out 1).trans rfl, (blk_cell BK438.out 2).trans rfl, (blk_cell BK438.out 3).trans rfl, (blk_cell BK438.out 4).trans rfl, (blk_cell BK438.out 5).trans rfl⟩ (fun hHeld => ?_)
      generalize w50.drew = w51 at HO443 BK429 BK430 BK438 HI0 HK HB hHeld ⊢
      refine pu 0 37 (bl 7 1) ?_
      refine pu 2 39 (bl 7 5) ?_
      refine tk 1 38 (bl 7 7) ?_ hHeld
      refine oe 3 40 (bl 7 15) (fun K hK => ?_)
      refine gs Try.func87 #[.pointer (some ⟨g, 0, none⟩), .int .i64 3] ?_
      with_reducible refine (spec_l1Rd_pick.calls k1 g s0_0 t454 3 t455 t456 w0 _ ?side1 ?side2 A36.out).mono ?_
      (case side1 => exact qi HI0)
      (case side2 => exact qb HI0 HB)
      rintro e w52 ⟨rfl, hi, hb, hk⟩
      refine ⟨_, rfl, ?_⟩
      have _ := kv hk (bk BK429) NB429_0
      have _ := kv hk (bk BK430) NB430_0
      have _ := kv hk (bk BK438) NB438_0
      have _ := ra (Kd.R_mono (Kd.R_keep (IsS127.apart (show IsS127 w0 _ g s0_0 t454 from qi HI0) (rq HO443) (by decide)) hk (fun _ h => h.2)) (fun _ h => h.1))
      have _ := ku (qk _ _ _ HK) hk
      have _ := ra (hb)
      have _ := ra (hi)
      clear BK429 BK430 BK438 HO443 HK HB HI0
      rename_i BK429 BK430 BK438 HO443 HK HB HI0
      (try clear hb)
      (try clear hb2)
      (try clear hk)
      (try clear hi)
      refine hK.out _ _ ⟨(blk_cell BK438.out 0).trans rfl, (blk_cell BK438.out 1).trans rfl, (blk_cell BK438.out 2).trans rfl, (blk_cell BK438.out 3).trans rfl, (blk_cell BK438.out 4).trans rfl, (blk_cell BK438.out 5).trans rfl⟩ (fun hHeld => ?_)
      clear hK K
      refine nm 40 ?_
      refine pu 4 41 (bl 7 31) ?_
      refine pu 5 42 (bl 7 63) ?_
      refine pu 6 9 (bl 7 127) ?_
      refine done_ (by kernel_rfl) ?_
      go_upto_region 11 with (fail)
      go_cut [48] (fun v48 wc => ∃ (kq : Nat) (x48_36 : Bool), v48 = .bool x48_36 ∧ Aside0 (spec_l2Tube.j1 kq x7_1 (wrap64 ((wrap64 (x439000_1 + t453)) - 1)) (wrap64 ((wrap64 (x439001_1 + t455)) - 1)) x48_36 s0_0 t456 a1 y441 x439000_1 x439001_1 x439002_1 x439003_1 x439004_1 x439005_1 = some (r1, r2, r3)) ∧ Aside0 (kq ≤ k1) ∧ Aside0 (Kd.R k95 95 wc w.heap.size (fun k_ => k_ ≠ gb438) (.slice Ao46 y441.length co46) y441) ∧ Aside0 (wc.heap[gb429]? = some (.cells #[.string (⟨#[]⟩ : ByteArray), (.slice none 0 0)] 40 (0, 0))) ∧ Aside0 (wc.heap[gb430]? = some (.cells #[.string a1, (.slice Ao46 y441.length co46)] 40 (0, 0))) ∧ Aside0 (wc.heap[gb438]? = some (.cells #[.int .i64 x439000_1, .int .i64 x439001_1, .int .i64 x439002_1, .int .i64 x439003_1, .int .i64 x439004_1, .int .i64 x439005_1] 95 (0, 0))) ∧ Aside0 (IsS127 w0 wc g s0_0 t456) ∧ Aside0 (KeepBut w wc g none) ∧ Aside0 (Below w0.heap.size w0 wc))
      case first =>
       have H := HC37.out
       clear HC37
       obtain ⟨t457, A53, H⟩ := bo H
       by_cases c54 : t457 = true
       ·subst c54
        replace H := it H rfl
        obtain ⟨t458, A55, H⟩ := bo H
        have H' := Aside0.mk H
        clear H
        go_wp2_with (first | ((with_reducible refine gate_callee (f := 105) rfl ?_); refine gl (some 44) Try.func105 #[.int .i64 (wrap64 ((wrap64 (x439000_1 + t453)) - 1)), .int .i64 0, .int .i64 15] ?_; (with_reducible refine (spec_l1In.calls (wrap64 ((wrap64 (x439000_1 + t453)) - 1)) 0 15 true _ A53.out).mono ?_); rintro e w' ⟨rfl, ⟨nd, rfl⟩⟩; refine ⟨_, rfl, ?_⟩) | (go_at_call 105; (with_reducible refine (spec_l1In.calls (wrap64 ((wrap64 (x439001_1 + t455)) - 1)) 0 15 t458 _ A55.out).mono ?_); rintro e w' ⟨rfl, ⟨nd, rfl⟩⟩))
        go_meet
        case rel => exact ⟨_, (t458), rs, H', ⟨by have := HK1.out; first | omega | exact Nat.le_refl _⟩, ⟨rq HO443⟩, ⟨bk BK429⟩, ⟨bk BK430⟩, ⟨bk BK438⟩, ⟨by exact qi HI0⟩, ⟨by exact qk _ _ _ HK⟩, ⟨by exact qb HI0 HB⟩⟩
       ·replace c54 := Bool.eq_false_iff.mpr c54
        subst c54
        have H1 : (spec_l2Tube.j1 k1 x7_1 (wrap64 ((wrap64 (x439000_1 + t453)) - 1)) (wrap64 ((wrap64 (x439001_1 + t455)) - 1)) false s0_0 t456 a1 y441 x439000_1 x439001_1 x439002_1 x439003_1 x439004_1 x439005_1) = some (r1, r2, r3) := by rw [if_neg (show ¬ (false = true) by decide)] at H; exact H
        clear H
        have H := H1
        clear H1
        have H' := Aside0.mk H
        clear H
        go_wp2_with (first | ((with_reducible refine gate_callee (f := 105) rfl ?_); refine gl (some 44) Try.func105 #[.int .i64 (wrap64 ((wrap64 (x439000_1 + t453)) - 1)), .int .i64 0, .int .i64 15] ?_; (with_reducible refine (spec_l1In.calls (wrap64 ((wrap64 (x439000_1 + t453)) - 1)) 0 15 false _ A53.out).mono ?_); rintro e w' ⟨rfl, ⟨nd, rfl⟩⟩; refine ⟨_, rfl, ?_⟩))
        go_meet
        case rel => exact ⟨_, (false), rs, H', ⟨by have := HK1.out; first | omega | exact Nat.le_refl _⟩, ⟨rq HO443⟩, ⟨bk BK429⟩, ⟨bk BK430⟩, ⟨bk BK438⟩, ⟨by exact qi HI0⟩, ⟨by exact qk _ _ _ HK⟩, ⟨by exact qb HI0 HB⟩⟩
      case rest =>
       clear HC37
       try clear c17
       try clear c17b0
       try clear c18
       try clear c20
       try clear c20b0
       try clear c20b1
       try clear c54
       try clear hcz15_0
       try clear hcz15_1
       try clear hcz15_2
       try clear hcz15_3
       try clear hcz15_4
       try clear hcz15_5
       try clear hcz25_0
       try clear hcz25_1
       try clear hcz28_0
       try clear hcz28_1
       try clear hcz28_2
       try clear hcz28_3
       try clear hcz28_4
       try clear hcz28_5
       try clear hcz31_0
       try clear hcz31_1
       try clear hcz34_0
       try clear hcz34_1
       try clear hcz34_2
       try clear hcz34_3
       try clear hcz34_4
       try clear hcz34_5
       try clear hcz41_0
       try clear hcz41_1
       try clear hcz44_0
       try clear hcz44_1
       try clear hcz44_2
       try clear hcz44_3
       try clear hcz44_4
       try clear hcz44_5
       try clear hcz47_0
       try clear hcz47_1
       try clear hcz9_0
       try clear hcz9_1
       try clear hfz15_0
       try clear hfz15_1
       try clear hfz15_2
       try clear hfz15_3
       try clear hfz15_4
       try clear hfz15_5
       try clear hfz25_0
       try clear hfz25_1
       try clear hfz28_0
       try clear hfz28_1
       try clear hfz28_2
       try clear hfz28_3
       try clear hfz28_4
       try clear hfz28_5
       try clear hfz31_0
       try clear hfz31_1
       try clear hfz34_0
       try clear hfz34_1
       try clear hfz34_2
       try clear hfz34_3
       try clear hfz34_4
       try clear hfz34_5
       try clear hfz41_0
       try clear hfz41_1
       try clear hfz44_0
       try clear hfz44_1
       try clear hfz44_2
       try clear hfz44_3
       try clear hfz44_4
       try clear hfz44_5
       try clear hfz47_0
       try clear hfz47_1
       try clear hfz9_0
       try clear hfz9_1
       obtain ⟨kq, x48_36, rfl, HA, HJ36, HO_431001, BK429, BK430, BK438, HI0, HK, HB⟩ := hcut
       cases kq with
       | zero => exact absurd HA.out (by simp [spec_l2Tube.j1])
       | succ kj36 =>
        have H := HA.out
        clear HA
        simp only [spec_l2Tube.j1] at H
        have HC56 := Aside0.mk H
        clear H
        go_upto_if 48 with (fail)
        go_cut [] (fun wc => ∃ (kq : Nat) (x439000_55 : Int) (x439001_55 : Int), Aside0 (spec_l2Tube.j2 kq x7_1 s0_0 t456 a1 y441 x439000_55 x439001_55 x439002_1 x439003_1 x439004_1 x439005_1 = some (r1, r2, r3)) ∧ Aside0 (kq ≤ kj36) ∧ Aside0 (Kd.R k95 95 wc w.heap.size (fun k_ => k_ ≠ gb438) (.slice Ao46 y441.length co46) y441) ∧ Aside0 (wc.heap[gb429]? = some (.cells #[.string (⟨#[]⟩ : ByteArray), (.slice none 0 0)] 40 (0, 0))) ∧ Aside0 (wc.heap[gb430]? = some (.cells #[.string a1, (.slice Ao46 y441.length co46)] 40 (0, 0))) ∧ Aside0 (wc.heap[gb438]? = some (.cells #[.int .i64 x439000_55, .int .i64 x439001_55, .int .i64 x439002_1, .int .i64 x439003_1, .int .i64 x439004_1, .int .i64 x439005_1] 95 (0, 0))) ∧ Aside0 (IsS127 w0 wc g s0_0 t456) ∧ Aside0 (KeepBut w wc g none) ∧ Aside0 (Below w0.heap.size w0 wc))
        case first =>
         have H := HC56.out
         clear HC56
         by_cases c57 : x48_36 = true
         ·subst c57
          replace H := it H rfl
          have H' := Aside0.mk H
          clear H
          have hnb58 := NB438_429.out
          have hnc58 := NB429_438.out
          have hnb59 := NB438_430.out
          have hnc59 := NB430_438.out
          have hnb60 := NB438_0.out
          have hnc60 := NB0_438.out
          obtain ⟨hcz61_0, hcz61_1, hcz61_2, hcz61_3, hcz61_4, hcz61_5, hfz61_0, hfz61_1, hfz61_2, hfz61_3, hfz61_4, hfz61_5⟩ := zc6 BK438
          go_wp2
          go_meet
          case rel => exact ⟨_, ((wrap64 ((wrap64 (x439000_1 + t453)) - 1))), ((wrap64 ((wrap64 (x439001_1 + t455)) - 1))), H', ⟨by have := HK1.out; have := HJ36.out; first | omega | exact Nat.le_refl _⟩, ⟨by (with_reducible repeat (first | apply Kd.R_alloc | apply Kd.R_drewN | apply Kd.R_drew)); exact Kd.R_mono (rf (Kd.R_mono HO_431001.out (fun k_ hk => (⟨hk, hk⟩ : _ ∧ k_ ≠ gb438)))) (fun _ hk => hk.1)⟩, ⟨bk BK429⟩, ⟨bk BK430⟩, ⟨by (with_reducible repeat (first | refine blk_drewN ?_ _ | refine blk_drew ?_ | refine blk_alloc ?_ _)); refine blk_put (cs := #[.int .i64 (wrap64 ((wrap64 (x439000_1 + t453)) - 1)), .int .i64 x439001_1, .int .i64 x439002_1, .int .i64 x439003_1, .int .i64 x439004_1, .int .i64 x439005_1]) ?_ 1 _ rfl; (with_reducible repeat (first | refine blk_drewN ?_ _ | refine blk_drew ?_ | refine blk_alloc ?_ _)); refine blk_put (cs := #[.int .i64 x439000_1, .int .i64 x439001_1, .int .i64 x439002_1, .int .i64 x439003_1, .int .i64 x439004_1, .int .i64 x439005_1]) ?_ 0 _ rfl; (with_reducible repeat (first | refine blk_drewN ?_ _ | refine blk_drew ?_ | refine blk_alloc ?_ _)); exact BK438.out⟩, ⟨by exact qi HI0⟩, ⟨by exact qk _ _ _ HK⟩, ⟨by exact qb HI0 HB⟩⟩
         ·replace c57 := Bool.eq_false_iff.mpr c57
          subst c57
          have H1 : (spec_l2Tube.j2 kj36 x7_1 s0_0 t456 a1 y441 x439000_1 x439001_1 x439002_1 x439003_1 x439004_1 x439005_1) = some (r1, r2, r3) := by rw [if_neg (show ¬ (false = true) by decide)] at H; exact H
          clear H
          have H := H1
          clear H1
          have H' := Aside0.mk H
          clear H
          go_wp2
          go_meet
          case rel => exact ⟨_, (x439000_1), (x439001_1), H', ⟨by have := HK1.out; have := HJ36.out; first | omega | exact Nat.le_refl _⟩, ⟨rq HO_431001⟩, ⟨bk BK429⟩, ⟨bk BK430⟩, ⟨bk BK438⟩, ⟨by exact qi HI0⟩, ⟨by exact qk _ _ _ HK⟩, ⟨by exact qb HI0 HB⟩⟩
        case rest =>
         clear HC56
         try clear c17
         try clear c17b0
         try clear c18
         try clear c20
         try clear c20b0
         try clear c20b1
         try clear c54
         try clear c57
         try clear hcz15_0
         try clear hcz15_1
         try clear hcz15_2
         try clear hcz15_3
         try clear hcz15_4
         try clear hcz15_5
         try clear hcz25_0
         try clear hcz25_1
         try clear hcz28_0
         try clear hcz28_1
         try clear hcz28_2
         try clear hcz28_3
         try clear hcz28_4
         try clear hcz28_5
         try clear hcz31_0
         try clear hcz31_1
         try clear hcz34_0
         try clear hcz34_1
         try clear hcz34_2
         try clear hcz34_3
         try clear hcz34_4
         try clear hcz34_5
         try clear hcz41_0
         try clear hcz41_1
         try clear hcz44_0
         try clear hcz44_1
         try clear hcz44_2
         try clear hcz44_3
         try clear hcz44_4
         try clear hcz44_5
         try clear hcz47_0
         try clear hcz47_1
         try clear hcz61_0
         try clear hcz61_1
         try clear hcz61_2
         try clear hcz61_3
         try clear hcz61_4
         try clear hcz61_5
         try clear hcz9_0
         try clear hcz9_1
         try clear hfz15_0
         try clear hfz15_1
         try clear hfz15_2
         try clear hfz15_3
         try clear hfz15_4
         try clear hfz15_5
         try clear hfz25_0
         try clear hfz25_1
         try clear hfz28_0
         try clear hfz28_1
         try clear hfz28_2
         try clear hfz28_3
         try clear hfz28_4
         try clear hfz28_5
         try clear hfz31_0
         try clear hfz31_1
         try clear hfz34_0
         try clear hfz34_1
         try clear hfz34_2
         try clear hfz34_3
         try clear hfz34_4
         try clear hfz34_5
         try clear hfz41_0
         try clear hfz41_1
         try clear hfz44_0
         try clear hfz44_1
         try clear hfz44_2
         try clear hfz44_3
         try clear hfz44_4
         try clear hfz44_5
         try clear hfz47_0
         try clear hfz47_1
         try clear hfz61_0
         try clear hfz61_1
         try clear hfz61_2
         try clear hfz61_3
         try clear hfz61_4
         try clear hfz61_5
         try clear hfz9_0
         try clear hfz9_1
         obtain ⟨kq, x439000_55, x439001_55, HA, HJ55, HO_431001, BK429, BK430, BK438, HI0, HK, HB⟩ := hcut
         cases kq with
         | zero => exact absurd HA.out (by simp [spec_l2Tube.j2])
         | succ kj55 =>
          have H := HA.out
          clear HA
          simp only [spec_l2Tube.j2] at H
          by_cases c62 : (wrap64 (x439005_1 + 20)) < 10000
          ·rw [if_pos c62] at H
           have c62b0 : decide ((wrap64 (x439005_1 + 20)) < 10000) = true := decide_eq_true c62
           clear c62
           obtain ⟨⟨t459, t460⟩, A63, H⟩ := bo H
           try dsimp only at H
           obtain ⟨⟨t461, t462⟩, A64, H⟩ := bo H
           try dsimp only at H
           by_cases c65 : (wrap64 ((wrap64 (x439005_1 + 1)) + t461)) < (wrap64 ((wrap64 (x439004_1 + 1)) + t459))
           ·rw [if_pos c65] at H
            have c65b0 : decide ((wrap64 ((wrap64 (x439005_1 + 1)) + t461)) < (wrap64 ((wrap64 (x439004_1 + 1)) + t459))) = true := decide_eq_true c65
            clear c65
            have H' := Aside0.mk H
            clear H
            have hnb66 := NB438_429.out
            have hnc66 := NB429_438.out
            have hnb67 := NB438_430.out
            have hnc67 := NB430_438.out
            have hnb68 := NB438_0.out
            have hnc68 := NB0_438.out
            obtain ⟨hcz69_0, hcz69_1, hcz69_2, hcz69_3, hcz69_4, hcz69_5, hfz69_0, hfz69_1, hfz69_2, hfz69_3, hfz69_4, hfz69_5⟩ := zc6 BK438
            try go_wp2
            have _ := ra (Kd.R_drew HO_431001.out)
            have _ := ra (blk_drew BK429.out)
            have _ := ra (blk_drew BK430.out)
            have _ := ra (blk_drew BK438.out)
            have _ := ra (IsS127.drew HI0.out)
            have _ := ra (keep_drew HK.out)
            have _ := ra (below_drew1 HB.out)
            clear HO_431001 BK429 BK430 BK438 HI0 HK HB
            rename_i HO_431001 BK429 BK430 BK438 HI0 HK HB
            refine start_ (n := 8) (S := fun w' => w'.cell? ⟨gb438, 0, none⟩ = some (.int .i64 x439000_55) ∧ w'.cell? ⟨gb438, 1, none⟩ = some (.int .i64 x439001_55) ∧ w'.cell? ⟨gb438, 2, none⟩ = some (.int .i64 x439002_1) ∧ w'.cell? ⟨gb438, 3, none⟩ = some (.int .i64 x439003_1) ∧ w'.cell? ⟨gb438, 4, none⟩ = some (.int .i64 x439004_1) ∧ w'.cell? ⟨gb438, 5, none⟩ = some (.int .i64 x439005_1)) (ds := [7]) #[false, false, false, false, false, false, false, false] (by kernel_rfl) rfl rfl ⟨(blk_cell BK438.out 0).trans rfl, (blk_cell BK438.out 1).trans rfl, (blk_cell BK438.out 2).trans rfl, (blk_cell BK438.out 3).trans rfl, (blk_cell BK438.out 4).trans rfl, (blk_cell BK438.out 5).trans rfl⟩ (fun hHeld => ?_); refine with_tabW spec_l2Tube.tab15 spec_l2Tube.bits15 (fun HT_ HW_ => ?_)
            generalize wc.drew = w70 at HO_431001 BK429 BK430 BK438 HI0 HK HB hHeld ⊢
            refine pu 0 57 (bl 8 1) ?_
            refine pu 3 60 (bl 8 9) ?_
            refine tk 1 58 (bl 8 11) ?_ hHeld
            refine pu 2 59 (bl 8 15) ?_
            refine oe 4 61 (bl 8 31) (fun K hK => ?_)
            refine gs Try.func87 #[.pointer (some ⟨g, 0, none⟩), .int .i64 4] ?_
            with_reducible refine (spec_l1Rd_pick.calls kj55 g s0_0 t456 4 t459 t460 w0 _ ?side1 ?side2 A63.out).mono ?_
            (case side1 => exact qi HI0)
            (case side2 => exact qb HI0 HB)
            rintro e w71 ⟨rfl, hi, hb, hk⟩
            refine ⟨_, rfl, ?_⟩
            have _ := ra (Kd.R_mono (Kd.R_keep (IsS127.apart (show IsS127 w0 _ g s0_0 t456 from qi HI0) (rq HO_431001) (by decide)) hk (fun _ h => h.2)) (fun _ h => h.1))
            have _ := kv hk (bk BK429) NB429_0
            have _ := kv hk (bk BK430) NB430_0
            have _ := kv hk (bk BK438) NB438_0
            have _ := ku (qk _ _ _ HK) hk
            have _ := ra (hb)
            have _ := ra (hi)
            clear HO_431001 BK429 BK430 BK438 HK HB HI0
            rename_i HO_431001 BK429 BK430 BK438 HK HB HI0
            (try clear hb)
            (try clear hb2)
            (try clear hk)
            (try clear hi)
            refine hK.out _ _ ⟨(blk_cell BK438.out 0).trans rfl, (blk_cell BK438.out 1).trans rfl, (blk_cell BK438.out 2).trans rfl, (blk_cell BK438.out 3).trans rfl, (blk_cell BK438.out 4).trans rfl, (blk_cell BK438.out 5).trans rfl⟩ (fun hHeld => ?_)
            clear hK K
            refine nm 61 ?_
            refine pu 5 62 (bl 8 63) ?_
            refine pu 6 63 (bl 8 127) ?_
            refine last_ (i := 7) (N := none) #[true, true, true, true, true, true, true, true] rfl rfl (one_of HT_.out (by kernel_rfl)) (by decide) (fun K hK => ?_)
            have hs72 : w71.cell? ⟨gb438, 4, none⟩ = some (.int .i64 x439004_1) := (blk_cell BK438.out 4).trans rfl
            have hfs72 := blk_frozen BK438.out 4
            have hns72_0 := NB429_438.out
            have hns72_1 := NB430_438.out
            have hms72_0 := NB438_429.out
            have hms72_1 := NB438_430.out
            refine skip_ (w1 := ?_) (by rfl) rfl ?_ ?_
            rotate_left
            ·go_simp
             rfl
            refine hK.out _ _ ?_
            clear hK K
            refine done_ (done_of HT_.out (by kernel_rfl)) ?_
            try go_wp2
            have n0 : Aside0 (Kd.R k95 95 (w71.setCell ⟨gb438, 4, none⟩ (.int .i64 (wrap64 ((wrap64 (x439004_1 + 1)) + t459)))) w.heap.size (fun k_ => k_ ≠ gb438) (.slice Ao46 y441.length co46) y441) := ⟨by (with_reducible repeat (first | apply Kd.R_alloc | apply Kd.R_drewN | apply Kd.R_drew)); exact Kd.R_mono (rf (Kd.R_mono HO_431001.out (fun k_ hk => (⟨hk, hk⟩ : _ ∧ k_ ≠ gb438)))) (fun _ hk => hk.1)⟩
            have n1 : Aside0 ((w71.setCell ⟨gb438, 4, none⟩ (.int .i64 (wrap64 ((wrap64 (x439004_1 + 1)) + t459)))).heap[gb429]? = some (.cells #[.string (⟨#[]⟩ : ByteArray), .slice none 0 0] 40 (0, 0))) := ⟨bk BK429⟩
            have n2 : Aside0 ((w71.setCell ⟨gb438, 4, none⟩ (.int .i64 (wrap64 ((wrap64 (x439004_1 + 1)) + t459)))).heap[gb430]? = some (.cells #[.string a1, .slice Ao46 y441.length co46] 40 (0, 0))) := ⟨bk BK430⟩
            have n3 : Aside0 ((w71.setCell ⟨gb438, 4, none⟩ (.int .i64 (wrap64 ((wrap64 (x439004_1 + 1)) + t459)))).heap[gb438]? = some (.cells #[.int .i64 x439000_55, .int .i64 x439001_55, .int .i64 x439002_1, .int .i64 x439003_1, .int .i64 (wrap64 ((wrap64 (x439004_1 + 1)) + t459)), .int .i64 x439005_1] 95 (0, 0))) := ⟨bp BK438⟩
            have n4 : Aside0 (IsS127 w0 (w71.setCell ⟨gb438, 4, none⟩ (.int .i64 (wrap64 ((wrap64 (x439004_1 + 1)) + t459)))) g s0_0 t460) := ⟨by exact qi HI0⟩
            have n5 : Aside0 (KeepBut w (w71.setCell ⟨gb438, 4, none⟩ (.int .i64 (wrap64 ((wrap64 (x439004_1 + 1)) + t459)))) g none) := ⟨by exact qk _ _ _ HK⟩
            have n6 : Aside0 (Below w0.heap.size w0 (w71.setCell ⟨gb438, 4, none⟩ (.int .i64 (wrap64 ((wrap64 (x439004_1 + 1)) + t459))))) := ⟨by exact qb HI0 HB⟩
            (try clear HO_431001)
            (try clear BK429)
            (try clear BK430)
            (try clear BK438)
            (try clear HI0)
            (try clear HK)
            (try clear HB)
            generalize (w71.setCell ⟨gb438, 4, none⟩ (.int .i64 (wrap64 ((wrap64 (x439004_1 + 1)) + t459)))) = w73 at n0 n1 n2 n3 n4 n5 n6 ⊢
            have HO_431001 := n0
            have BK429 := n1
            have BK430 := n2
            have BK438 := n3
            have HI0 := n4
            have HK := n5
            have HB := n6
            clear n0 n1 n2 n3 n4 n5 n6
            have _ := ra (Kd.R_drew HO_431001.out)
            have _ := ra (blk_drew BK429.out)
            have _ := ra (blk_drew BK430.out)
            have _ := ra (blk_drew BK438.out)
            have _ := ra (IsS127.drew HI0.out)
            have _ := ra (keep_drew HK.out)
            have _ := ra (below_drew1 HB.out)
            clear HO_431001 BK429 BK430 BK438 HI0 HK HB
            rename_i HO_431001 BK429 BK430 BK438 HI0 HK HB
            refine start_ (n := 8) (S := fun w' => w'.cell? ⟨gb438, 0, none⟩ = some (.int .i64 x439000_55) ∧ w'.cell? ⟨gb438, 1, none⟩ = some (.int .i64 x439001_55) ∧ w'.cell? ⟨gb438, 2, none⟩ = some (.int .i64 x439002_1) ∧ w'.cell? ⟨gb438, 3, none⟩ = some (.int .i64 x439003_1) ∧ w'.cell? ⟨gb438, 4, none⟩ = some (.int .i64 (wrap64 ((wrap64 (x439004_1 + 1)) + t459))) ∧ w'.cell? ⟨gb438, 5, none⟩ = some (.int .i64 x439005_1)) (ds := [7]) #[false, false, false, false, false, false, false, false] (by kernel_rfl) rfl rfl ⟨(blk_cell BK438.out 0).trans rfl, (blk_cell BK438.out 1).trans rfl, (blk_cell BK438.out 2).trans rfl, (blk_cell BK438.out 3).trans rfl, (blk_cell BK438.out 4).trans rfl, (blk_cell BK438.out 5).trans rfl⟩ (fun hHeld => ?_); refine with_tabW spec_l2Tube.tab16 spec_l2Tube.bits16 (fun HT_ HW_ => ?_)
            generalize w73.drew = w74 at HO_431001 BK429 BK430 BK438 HI0 HK HB hHeld ⊢
            refine pu 0 64 (bl 8 1) ?_
            refine pu 3 67 (bl 8 9) ?_
            refine tk 1 65 (bl 8 11) ?_ hHeld
            refine pu 2 66 (bl 8 15) ?_
            refine oe 4 68 (bl 8 31) (fun K hK => ?_)
            refine gs Try.func87 #[.pointer (some ⟨g, 0, none⟩), .int .i64 6] ?_
            with_reducible refine (spec_l1Rd_pick.calls kj55 g s0_0 t460 6 t461 t462 w0 _ ?side1 ?side2 A64.out).mono ?_
            (case side1 => exact qi HI0)
            (case side2 => exact qb HI0 HB)
            rintro e w75 ⟨rfl, hi, hb, hk⟩
            refine ⟨_, rfl, ?_⟩
            have _ := ra (Kd.R_mono (Kd.R_keep (IsS127.apart (show IsS127 w0 _ g s0_0 t460 from qi HI0) (rq HO_431001) (by decide)) hk (fun _ h => h.2)) (fun _ h => h.1))
            have _ := kv hk (bk BK429) NB429_0
            have _ := kv hk (bk BK430) NB430_0
            have _ := kv hk (bk BK438) NB438_0
            have _ := ku (qk _ _ _ HK) hk
            have _ := ra (hb)
            have _ := ra (hi)
            clear HO_431001 BK429 BK430 BK438 HK HB HI0
            rename_i HO_431001 BK429 BK430 BK438 HK HB HI0
            (try clear hb)
            (try clear hb2)
            (try clear hk)
            (try clear hi)
            refine hK.out _ _ ⟨(blk_cell BK438.out 0).trans rfl, (blk_cell BK438.out 1).trans rfl, (blk_cell BK438.out 2).trans rfl, (blk_cell BK438.out 3).trans rfl, (blk_cell BK438.out 4).trans rfl, (blk_cell BK438.out 5).trans rfl⟩ (fun hHeld => ?_)
            clear hK K
            refine nm 68 ?_
            refine pu 5 69 (bl 8 63) ?_
            refine pu 6 70 (bl 8 127) ?_
            refine last_ (i := 7) (N := none) #[true, true, true, true, true, true, true, true] rfl rfl (one_of HT_.out (by kernel_rfl)) (by decide) (fun K hK => ?_)
            have hs76 : w75.cell? ⟨gb438, 5, none⟩ = some (.int .i64 x439005_1) := (blk_cell BK438.out 5).trans rfl
            have hfs76 := blk_frozen BK438.out 5
            have hns76_0 := NB429_438.out
            have hns76_1 := NB430_438.out
            have hms76_0 := NB438_429.out
            have hms76_1 := NB438_430.out
            refine skip_ (w1 := ?_) (by rfl) rfl ?_ ?_
            rotate_left
            ·go_simp
             rfl
            refine hK.out _ _ ?_
            clear hK K
            refine done_ (done_of HT_.out (by kernel_rfl)) ?_
            obtain ⟨hcz77_0, hcz77_1, hcz77_2, hcz77_3, hcz77_4, hcz77_5, hfz77_0, hfz77_1, hfz77_2, hfz77_3, hfz77_4, hfz77_5⟩ := zc6 BK438
            try go_wp2
            go_roundg kj55
            case measure => have := HK1.out; have := HJ36.out; have := HJ55.out; omega
            case rel => exact ⟨(wrap64 (x7_1 - 1)), (t462), (y441), (x439000_55), (x439001_55), (x439002_1), (x439003_1), (wrap64 ((wrap64 (x439004_1 + 1)) + t459)), (wrap64 ((wrap64 (x439004_1 + 1)) + t459)), (.slice Ao46 y441.length co46), rs, H', ⟨by have := HK1.out; have := HJ36.out; have := HJ55.out; omega⟩, ⟨by (with_reducible repeat (first | apply Kd.R_alloc | apply Kd.R_drewN | apply Kd.R_drew)); exact Kd.R_mono (rf (Kd.R_mono HO_431001.out (fun k_ hk => (⟨hk, hk⟩ : _ ∧ k_ ≠ gb438)))) (fun _ hk => hk.1)⟩, ⟨bk BK429⟩, ⟨bk BK430⟩, ⟨by (with_reducible repeat (first | refine blk_drewN ?_ _ | refine blk_drew ?_ | refine blk_alloc ?_ _)); refine blk_put (cs := #[.int .i64 x439000_55, .int .i64 x439001_55, .int .i64 x439002_1, .int .i64 x439003_1, .int .i64 (wrap64 ((wrap64 (x439004_1 + 1)) + t459)), .int .i64 (wrap64 ((wrap64 (x439005_1 + 1)) + t461))]) ?_ 5 _ rfl; (with_reducible repeat (first | refine blk_drewN ?_ _ | refine blk_drew ?_ | refine blk_alloc ?_ _)); refine blk_put (cs := #[.int .i64 x439000_55, .int .i64 x439001_55, .int .i64 x439002_1, .int .i64 x439003_1, .int .i64 (wrap64 ((wrap64 (x439004_1 + 1)) + t459)), .int .i64 x439005_1]) ?_ 5 _ rfl; (with_reducible repeat (first | refine blk_drewN ?_ _ | refine blk_drew ?_ | refine blk_alloc ?_ _)); exact BK438.out⟩, ⟨by exact qi HI0⟩, ⟨by exact qk _ _ _ HK⟩, ⟨by exact qb HI0 HB⟩⟩
           ·rw [if_neg c65] at H
            have c65b0 : decide ((wrap64 ((wrap64 (x439005_1 + 1)) + t461)) < (wrap64 ((wrap64 (x439004_1 + 1)) + t459))) = false := decide_eq_false c65
            clear c65
            have H' := Aside0.mk H
            clear H
            have hnb78 := NB438_429.out
            have hnc78 := NB429_438.out
            have hnb79 := NB438_430.out
            have hnc79 := NB430_438.out
            have hnb80 := NB438_0.out
            have hnc80 := NB0_438.out
            obtain ⟨hcz81_0, hcz81_1, hcz81_2, hcz81_3, hcz81_4, hcz81_5, hfz81_0, hfz81_1, hfz81_2, hfz81_3, hfz81_4, hfz81_5⟩ := zc6 BK438
            try go_wp2
            have _ := ra (Kd.R_drew HO_431001.out)
            have _ := ra (blk_drew BK429.out)
            have _ := ra (blk_drew BK430.out)
            have _ := ra (blk_drew BK438.out)
            have _ := ra (IsS127.drew HI0.out)
            have _ := ra (keep_drew HK.out)
            have _ := ra (below_drew1 HB.out)
            clear HO_431001 BK429 BK430 BK438 HI0 HK HB
            rename_i HO_431001 BK429 BK430 BK438 HI0 HK HB
            refine start_ (n := 8) (S := fun w' => w'.cell? ⟨gb438, 0, none⟩ = some (.int .i64 x439000_55) ∧ w'.cell? ⟨gb438, 1, none⟩ = some (.int .i64 x439001_55) ∧ w'.cell? ⟨gb438, 2, none⟩ = some (.int .i64 x439002_1) ∧ w'.cell? ⟨gb438, 3, none⟩ = some (.int .i64 x439003_1) ∧ w'.cell? ⟨gb438, 4, none⟩ = some (.int .i64 x439004_1) ∧ w'.cell? ⟨gb438, 5, none⟩ = some (.int .i64 x439005_1)) (ds := [7]) #[false, false, false, false, false, false, false, false] (by kernel_rfl) rfl rfl ⟨(blk_cell BK438.out 0).trans rfl, (blk_cell BK438.out 1).trans rfl, (blk_cell BK438.out 2).trans rfl, (blk_cell BK438.out 3).trans rfl, (blk_cell BK438.out 4).trans rfl, (blk_cell BK438.out 5).trans rfl⟩ (fun hHeld => ?_); refine with_tabW spec_l2Tube.tab15 spec_l2Tube.bits15 (fun HT_ HW_ => ?_)
            generalize wc.drew = w82 at HO_431001 BK429 BK430 BK438 HI0 HK HB hHeld ⊢
            refine pu 0 57 (bl 8 1) ?_
            refine pu 3 60 (bl 8 9) ?_
            refine tk 1 58 (bl 8 11) ?_ hHeld
            refine pu 2 59 (bl 8 15) ?_
            refine oe 4 61 (bl 8 31) (fun K hK => ?_)
            refine gs Try.func87 #[.pointer (some ⟨g, 0, none⟩), .int .i64 4] ?_
            with_reducible refine (spec_l1Rd_pick.calls kj55 g s0_0 t456 4 t459 t460 w0 _ ?side1 ?side2 A63.out).mono ?_
            (case side1 => exact qi HI0)
            (case side2 => exact qb HI0 HB)
            rintro e w83 ⟨rfl, hi, hb, hk⟩
            refine ⟨_, rfl, ?_⟩
            have _ := ra (Kd.R_mono (Kd.R_keep (IsS127.apart (show IsS127 w0 _ g s0_0 t456 from qi HI0) (rq HO_431001) (by decide)) hk (fun _ h => h.2)) (fun _ h => h.1))
            have _ := kv hk (bk BK429) NB429_0
            have _ := kv hk (bk BK430) NB430_0
            have _ := kv hk (bk BK438) NB438_0
            have _ := ku (qk _ _ _ HK) hk
            have _ := ra (hb)
            have _ := ra (hi)
            clear HO_431001 BK429 BK430 BK438 HK HB HI0
            rename_i HO_431001 BK429 BK430 BK438 HK HB HI0
            (try clear hb)
            (try clear hb2)
            (try clear hk)
            (try clear hi)
            refine hK.out _ _ ⟨(blk_cell BK438.out 0).trans rfl, (blk_cell BK438.out 1).trans rfl, (blk_cell BK438.out 2).trans rfl, (blk_cell BK438.out 3).trans rfl, (blk_cell BK438.out 4).trans rfl, (blk_cell BK438.out 5).trans rfl⟩ (fun hHeld => ?_)
            clear hK K
            refine nm 61 ?_
            refine pu 5 62 (bl 8 63) ?_
            refine pu 6 63 (bl 8 127) ?_
            refine last_ (i := 7) (N := none) #[true, true, true, true, true, true, true, true] rfl rfl (one_of HT_.out (by kernel_rfl)) (by decide) (fun K hK => ?_)
            have hs84 : w83.cell? ⟨gb438, 4, none⟩ = some (.int .i64 x439004_1) := (blk_cell BK438.out 4).trans rfl
            have hfs84 := blk_frozen BK438.out 4
            have hns84_0 := NB429_438.out
            have hns84_1 := NB430_438.out
            have hms84_0 := NB438_429.out
            have hms84_1 := NB438_430.out
            refine skip_ (w1 := ?_) (by rfl) rfl ?_ ?_
            rotate_left
            ·go_simp
             rfl
            refine hK.out _ _ ?_
            clear hK K
            refine done_ (done_of HT_.out (by kernel_rfl)) ?_
            try go_wp2
            have n0 : Aside0 (Kd.R k95 95 (w83.setCell ⟨gb438, 4, none⟩ (.int .i64 (wrap64 ((wrap64 (x439004_1 + 1)) + t459)))) w.heap.size (fun k_ => k_ ≠ gb438) (.slice Ao46 y441.length co46) y441) := ⟨by (with_reducible repeat (first | apply Kd.R_alloc | apply Kd.R_drewN | apply Kd.R_drew)); exact Kd.R_mono (rf (Kd.R_mono HO_431001.out (fun k_ hk => (⟨hk, hk⟩ : _ ∧ k_ ≠ gb438)))) (fun _ hk => hk.1)⟩
            have n1 : Aside0 ((w83.setCell ⟨gb438, 4, none⟩ (.int .i64 (wrap64 ((wrap64 (x439004_1 + 1)) + t459)))).heap[gb429]? = some (.cells #[.string (⟨#[]⟩ : ByteArray), .slice none 0 0] 40 (0, 0))) := ⟨bk BK429⟩
            have n2 : Aside0 ((w83.setCell ⟨gb438, 4, none⟩ (.int .i64 (wrap64 ((wrap64 (x439004_1 + 1)) + t459)))).heap[gb430]? = some (.cells #[.string a1, .slice Ao46 y441.length co46] 40 (0, 0))) := ⟨bk BK430⟩
            have n3 : Aside0 ((w83.setCell ⟨gb438, 4, none⟩ (.int .i64 (wrap64 ((wrap64 (x439004_1 + 1)) + t459)))).heap[gb438]? = some (.cells #[.int .i64 x439000_55, .int .i64 x439001_55, .int .i64 x439002_1, .int .i64 x439003_1, .int .i64 (wrap64 ((wrap64 (x439004_1 + 1)) + t459)), .int .i64 x439005_1] 95 (0, 0))) := ⟨bp BK438⟩
            have n4 : Aside0 (IsS127 w0 (w83.setCell ⟨gb438, 4, none⟩ (.int .i64 (wrap64 ((wrap64 (x439004_1 + 1)) + t459)))) g s0_0 t460) := ⟨by exact qi HI0⟩
            have n5 : Aside0 (KeepBut w (w83.setCell ⟨gb438, 4, none⟩ (.int .i64 (wrap64 ((wrap64 (x439004_1 + 1)) + t459)))) g none) := ⟨by exact qk _ _ _ HK⟩
            have n6 : Aside0 (Below w0.heap.size w0 (w83.setCell ⟨gb438, 4, none⟩ (.int .i64 (wrap64 ((wrap64 (x439004_1 + 1)) + t459))))) := ⟨by exact qb HI0 HB⟩
            (try clear HO_431001)
            (try clear BK429)
            (try clear BK430)
            (try clear BK438)
            (try clear HI0)
            (try clear HK)
            (try clear HB)
            generalize (w83.setCell ⟨gb438, 4, none⟩ (.int .i64 (wrap64 ((wrap64 (x439004_1 + 1)) + t459)))) = w85 at n0 n1 n2 n3 n4 n5 n6 ⊢
            have HO_431001 := n0
            have BK429 := n1
            have BK430 := n2
            have BK438 := n3
            have HI0 := n4
            have HK := n5
            have HB := n6
            clear n0 n1 n2 n3 n4 n5 n6
            have _ := ra (Kd.R_drew HO_431001.out)
            have _ := ra (blk_drew BK429.out)
            have _ := ra (blk_drew BK430.out)
            have _ := ra (blk_drew BK438.out)
            have _ := ra (IsS127.drew HI0.out)
            have _ := ra (keep_drew HK.out)
            have _ := ra (below_drew1 HB.out)
            clear HO_431001 BK429 BK430 BK438 HI0 HK HB
            rename_i HO_431001 BK429 BK430 BK438 HI0 HK HB
            refine start_ (n := 8) (S := fun w' => w'.cell? ⟨gb438, 0, none⟩ = some (.int .i64 x439000_55) ∧ w'.cell? ⟨gb438, 1, none⟩ = some (.int .i64 x439001_55) ∧ w'.cell? ⟨gb438, 2, none⟩ = some (.int .i64 x439002_1) ∧ w'.cell? ⟨gb438, 3, none⟩ = some (.int .i64 x439003_1) ∧ w'.cell? ⟨gb438, 4, none⟩ = some (.int .i64 (wrap64 ((wrap64 (x439004_1 + 1)) + t459))) ∧ w'.cell? ⟨gb438, 5, none⟩ = some (.int .i64 x439005_1)) (ds := [7]) #[false, false, false, false, false, false, false, false] (by kernel_rfl) rfl rfl ⟨(blk_cell BK438.out 0).trans rfl, (blk_cell BK438.out 1).trans rfl, (blk_cell BK438.out 2).trans rfl, (blk_cell BK438.out 3).trans rfl, (blk_cell BK438.out 4).trans rfl, (blk_cell BK438.out 5).trans rfl⟩ (fun hHeld => ?_); refine with_tabW spec_l2Tube.tab16 spec_l2Tube.bits16 (fun HT_ HW_ => ?_)
            generalize w85.drew = w86 at HO_431001 BK429 BK430 BK438 HI0 HK HB hHeld ⊢
            refine pu 0 64 (bl 8 1) ?_
            refine pu 3 67 (bl 8 9) ?_
            refine tk 1 65 (bl 8 11) ?_ hHeld
            refine pu 2 66 (bl 8 15) ?_
            refine oe 4 68 (bl 8 31) (fun K hK => ?_)
            refine gs Try.func87 #[.pointer (some ⟨g, 0, none⟩), .int .i64 6] ?_
            with_reducible refine (spec_l1Rd_pick.calls kj55 g s0_0 t460 6 t461 t462 w0 _ ?side1 ?side2 A64.out).mono ?_
            (case side1 => exact qi HI0)
            (case side2 => exact qb HI0 HB)
            rintro e w87 ⟨rfl, hi, hb, hk⟩
            refine ⟨_, rfl, ?_⟩
            have _ := ra (Kd.R_mono (Kd.R_keep (IsS127.apart (show IsS127 w0 _ g s0_0 t460 from qi HI0) (rq HO_431001) (by decide)) hk (fun _ h => h.2)) (fun _ h => h.1))
            have _ := kv hk (bk BK429) NB429_0
            have _ := kv hk (bk BK430) NB430_0
            have _ := kv hk (bk BK438) NB438_0
            have _ := ku (qk _ _ _ HK) hk
            have _ := ra (hb)
            have _ := ra (hi)
            clear HO_431001 BK429 BK430 BK438 HK HB HI0
            rename_i HO_431001 BK429 BK430 BK438 HK HB HI0
            (try clear hb)
            (try clear hb2)
            (try clear hk)
            (try clear hi)
            refine hK.out _ _ ⟨(blk_cell BK438.out 0).trans rfl, (blk_cell BK438.out 1).trans rfl, (blk_cell BK438.out 2).trans rfl, (blk_cell BK438.out 3).trans rfl, (blk_cell BK438.out 4).trans rfl, (blk_cell BK438.out 5).trans rfl⟩ (fun hHeld => ?_)
            clear hK K
            refine nm 68 ?_
            refine pu 5 69 (bl 8 63) ?_
            refine pu 6 70 (bl 8 127) ?_
            refine last_ (i := 7) (N := none) #[true, true, true, true, true, true, true, true] rfl rfl (one_of HT_.out (by kernel_rfl)) (by decide) (fun K hK => ?_)
            have hs88 : w87.cell? ⟨gb438, 5, none⟩ = some (.int .i64 x439005_1) := (blk_cell BK438.out 5).trans rfl
            have hfs88 := blk_frozen BK438.out 5
            have hns88_0 := NB429_438.out
            have hns88_1 := NB430_438.out
            have hms88_0 := NB438_429.out
            have hms88_1 := NB438_430.out
            refine skip_ (w1 := ?_) (by rfl) rfl ?_ ?_
            rotate_left
            ·go_simp
             rfl
            refine hK.out _ _ ?_
            clear hK K
            refine done_ (done_of HT_.out (by kernel_rfl)) ?_
            obtain ⟨hcz89_0, hcz89_1, hcz89_2, hcz89_3, hcz89_4, hcz89_5, hfz89_0, hfz89_1, hfz89_2, hfz89_3, hfz89_4, hfz89_5⟩ := zc6 BK438
            try go_wp2
            go_roundg kj55
            case measure => have := HK1.out; have := HJ36.out; have := HJ55.out; omega
            case rel => exact ⟨(wrap64 (x7_1 - 1)), (t462), (y441), (x439000_55), (x439001_55), (x439002_1), (x439003_1), (wrap64 ((wrap64 (x439004_1 + 1)) + t459)), (wrap64 ((wrap64 (x439005_1 + 1)) + t461)), (.slice Ao46 y441.length co46), rs, H', ⟨by have := HK1.out; have := HJ36.out; have := HJ55.out; omega⟩, ⟨by (with_reducible repeat (first | apply Kd.R_alloc | apply Kd.R_drewN | apply Kd.R_drew)); exact Kd.R_mono (rf (Kd.R_mono HO_431001.out (fun k_ hk => (⟨hk, hk⟩ : _ ∧ k_ ≠ gb438)))) (fun _ hk => hk.1)⟩, ⟨bk BK429⟩, ⟨bk BK430⟩, ⟨by (with_reducible repeat (first | refine blk_drewN ?_ _ | refine blk_drew ?_ | refine blk_alloc ?_ _)); refine blk_put (cs := #[.int .i64 x439000_55, .int .i64 x439001_55, .int .i64 x439002_1, .int .i64 x439003_1, .int .i64 (wrap64 ((wrap64 (x439004_1 + 1)) + t459)), .int .i64 x439005_1]) ?_ 5 _ rfl; (with_reducible repeat (first | refine blk_drewN ?_ _ | refine blk_drew ?_ | refine blk_alloc ?_ _)); exact BK438.out⟩, ⟨by exact qi HI0⟩, ⟨by exact qk _ _ _ HK⟩, ⟨by exact qb HI0 HB⟩⟩
          ·rw [if_neg c62] at H
           have c62b0 : decide ((wrap64 (x439005_1 + 20)) < 10000) = false := decide_eq_false c62
           clear c62
           have H' := Aside0.mk H
           clear H
           have hnb90 := NB438_429.out
           have hnc90 := NB429_438.out
           have hnb91 := NB438_430.out
           have hnc91 := NB430_438.out
           have hnb92 := NB438_0.out
           have hnc92 := NB0_438.out
           obtain ⟨hcz93_0, hcz93_1, hcz93_2, hcz93_3, hcz93_4, hcz93_5, hfz93_0, hfz93_1, hfz93_2, hfz93_3, hfz93_4, hfz93_5⟩ := zc6 BK438
           go_wp2
           go_roundg kj55
           case measure => have := HK1.out; have := HJ36.out; have := HJ55.out; omega
           case rel => exact ⟨(wrap64 (x7_1 - 1)), (t456), (y441), (x439000_55), (x439001_55), (x439002_1), (x439003_1), (x439004_1), (x439005_1), (.slice Ao46 y441.length co46), rs, H', ⟨by have := HK1.out; have := HJ36.out; have := HJ55.out; omega⟩, ⟨rq HO_431001⟩, ⟨bk BK429⟩, ⟨bk BK430⟩, ⟨bk BK438⟩, ⟨by exact qi HI0⟩, ⟨by exact qk _ _ _ HK⟩, ⟨by exact qb HI0 HB⟩⟩
    ·rw [if_neg c18] at H
     exact absurd H (by simp)
   ·rw [if_neg c17] at H
    have c17b0 : decide (0 < x7_1) = false := decide_eq_false c17
    clear c17
    obtain ⟨⟨t463, t464⟩, A94, H⟩ := bo H
    try dsimp only at H
    by_cases c95 : t463 = 0
    ·rw [if_pos c95] at H
     have c95b0 : (t463 == 0) = true := beq_iff_eq.mpr c95
     have c95b1 : (t463 != 0) = false := bne_eq_false_iff_eq.mpr c95
     clear c95
     have H' := Aside0.mk H
     clear H
     go_wp2_with (first | ((with_reducible refine gate_callee (f := 87) rfl ?_); refine gl (some 80) Try.func87 #[.pointer (some ⟨g, 0, none⟩), .int .i64 40] ?_; (with_reducible refine (spec_l1Rd_pick.calls k1 g s0_0 x1001_1 40 t463 t464 w0 _ ?side1 ?side2 A94.out).mono ?_); (case side1 => exact qi HI0); (case side2 => exact qb HI0 HB); rintro e w96 ⟨rfl, hi, hb, hk⟩; refine ⟨_, rfl, ?_⟩; have _ := ra (Kd.R_mono (Kd.R_keep (IsS127.apart (show IsS127 w0 _ g s0_0 x1001_1 from qi HI0) (rq HO_431001) (by decide)) hk (fun _ h => h.2)) (fun _ h => h.1)); have _ := kv hk (bk BK429) NB429_0; have _ := kv hk (bk BK430) NB430_0; have _ := kv hk (bk BK438) NB438_0; have _ := ku (qk _ _ _ HK) hk; have _ := ra (hb); have _ := ra (hi); clear HO_431001 BK429 BK430 BK438 HK HB HI0; rename_i HO_431001 BK429 BK430 BK438 HK HB HI0; (try clear hb); (try clear hb2); (try clear hk); (try clear hi)))
     go_loopg [] k1 (fun kq w' => ∃ (x1001_2 : Int) (x431001_2 : List (S95)) (u431001 : Value), Aside0 (spec_l2Tube.l1 kq s0_0 x1001_2 a1 x431001_2 = some (r1, r2, r3)) ∧ Aside0 (kq ≤ k1) ∧ Aside0 (Kd.R k95 95 w' w.heap.size (fun k_ => k_ ≠ gb438) u431001 x431001_2) ∧ Aside0 (w'.heap[gb429]? = some (.cells #[.string (⟨#[]⟩ : ByteArray), (.slice none 0 0)] 40 (0, 0))) ∧ Aside0 (w'.heap[gb430]? = some (.cells #[.string a1, u431001] 40 (0, 0))) ∧ Aside0 (w'.heap[gb438]? = some (.cells #[.int .i64 x439000_1, .int .i64 x439001_1, .int .i64 x439002_1, .int .i64 x439003_1, .int .i64 x439004_1, .int .i64 x439005_1] 95 (0, 0))) ∧ Aside0 (IsS127 w0 w' g s0_0 x1001_2) ∧ Aside0 (KeepBut w w' g none) ∧ Aside0 (Below w0.heap.size w0 w'))
     case atStart => exact ⟨(t464), (x431001_1), (u431001), H', ⟨Nat.le_refl _⟩, ⟨rq HO_431001⟩, ⟨bk BK429⟩, ⟨bk BK430⟩, ⟨bk BK438⟩, ⟨by exact qi HI0⟩, ⟨by exact qk _ _ _ HK⟩, ⟨by exact qb HI0 HB⟩⟩
     case round =>
      clear H'
      try clear c17
      try clear c17b0
      try clear c18
      try clear c62
      try clear c62b0
      try clear c65
      try clear c65b0
      try clear c95
      try clear c95b0
      try clear c95b1
      try clear hcz77_0
      try clear hcz77_1
      try clear hcz77_2
      try clear hcz77_3
      try clear hcz77_4
      try clear hcz77_5
      try clear hcz81_0
      try clear hcz81_1
      try clear hcz81_2
      try clear hcz81_3
      try clear hcz81_4
      try clear hcz81_5
      try clear hcz89_0
      try clear hcz89_1
      try clear hcz89_2
      try clear hcz89_3
      try clear hcz89_4
      try clear hcz89_5
      try clear hcz93_0
      try clear hcz93_1
      try clear hcz93_2
      try clear hcz93_3
      try clear hcz93_4
      try clear hcz93_5
      try clear hfz77_0
      try clear hfz77_1
      try clear hfz77_2
      try clear hfz77_3
      try clear hfz77_4
      try clear hfz77_5
      try clear hfz81_0
      try clear hfz81_1
      try clear hfz81_2
      try clear hfz81_3
      try clear hfz81_4
      try clear hfz81_5
      try clear hfz89_0
      try clear hfz89_1
      try clear hfz89_2
      try clear hfz89_3
      try clear hfz89_4
      try clear hfz89_5
      try clear hfz93_0
      try clear hfz93_1
      try clear hfz93_2
      try clear hfz93_3
      try clear hfz93_4
      try clear hfz93_5
      obtain ⟨x1001_2, x431001_2, u431001, HA, HK2, HO_431001, BK429, BK430, BK438, HI0, HK, HB⟩ := hrel
      cases gk with
      | zero => exact absurd HA.out (by simp [spec_l2Tube.l1])
      | succ k2 =>
       have H := HA.out
       clear HA
       simp only [spec_l2Tube.l1] at H
       obtain ⟨⟨t465, t466⟩, A97, H⟩ := bo H
       try dsimp only at H
       by_cases c98 : (x431001_2.length : Int) < (wrap64 (40 - t465))
       ·rw [if_pos c98] at H
        have c98b0 : decide ((x431001_2.length : Int) < (wrap64 (40 - t465))) = true := decide_eq_true c98
        clear c98
        obtain ⟨⟨t467, t468, t469, t470, t471, t472, t473⟩, A99, H⟩ := bo H
        try dsimp only at H
        by_cases c100 : x431001_2.length < 2932031007402
        ·rw [if_pos c100] at H
         have LMc100 := Aside0.mk c100
         clear c100
         obtain ⟨y474, hy_⟩ : ∃ y_ : List (S95), y_ = (x431001_2 ++ [(⟨t467, t468, t469, t470, t471, t472⟩ : S95)]) := ⟨_, rfl⟩
         replace H : (spec_l2Tube.l1 k2 s0_0 t473 a1 y474) = some (r1, r2, r3) := yh
         have Ny474 := ra hy_
         clear hy_
         have H' := Aside0.mk H
         clear H
         try go_wp2
         have _ := ra (Kd.R_drew HO_431001.out)
         have _ := ra (blk_drew BK429.out)
         have _ := ra (blk_drew BK430.out)
         have _ := ra (blk_drew BK438.out)
         have _ := ra (IsS127.drew HI0.out)
         have _ := ra (keep_drew HK.out)
         have _ := ra (below_drew1 HB.out)
         clear HO_431001 BK429 BK430 BK438 HI0 HK HB
         rename_i HO_431001 BK429 BK430 BK438 HI0 HK HB
         obtain ⟨Ao102, co102, eo102⟩ := Kd.R_slice HO_431001.out
         (first | subst eo102 | (injection eo102 with f1_ f2_ f3_; have f4_ := f1_.symm; have f5_ := f3_.symm; clear f1_ f2_ f3_; subst f4_; subst f5_))
         refine start_ (n := 7) (S := fun w' => w'.cell? ⟨gb430, 0, none⟩ = some (.string a1) ∧ w'.cell? ⟨gb430, 1, none⟩ = some (.slice Ao102 x431001_2.length co102)) (ds := []) (bl 7 0) (by kernel_rfl) rfl rfl ⟨(blk_cell BK430.out 0).trans rfl, (blk_cell BK430.out 1).trans rfl⟩ (fun hHeld => ?_)
         generalize wr.drew = w101 at HO_431001 BK429 BK430 BK438 HI0 HK HB hHeld ⊢
         refine pu 0 82 (bl 7 1) ?_
         refine pu 3 85 (bl 7 9) ?_
         refine tk 1 83 (bl 7 11) ?_ hHeld
         refine pu 2 84 (bl 7 15) ?_
         refine oe 4 86 (bl 7 31) (fun K hK => ?_)
         refine gs Try.func87 #[.pointer (some ⟨g, 0, none⟩), .int .i64 2] ?_
         with_reducible refine (spec_l1Rd_pick.calls k2 g s0_0 x1001_2 2 t465 t466 w0 _ ?side1 ?side2 A97.out).mono ?_
         (case side1 => exact qi HI0)
         (case side2 => exact qb HI0 HB)
         rintro e w103 ⟨rfl, hi, hb, hk⟩
         refine ⟨_, rfl, ?_⟩
         have _ := ra (Kd.R_mono (Kd.R_keep (IsS127.apart (show IsS127 w0 _ g s0_0 x1001_2 from qi HI0) (rq HO_431001) (by decide)) hk (fun _ h => h.2)) (fun _ h => h.1))
         have _ := kv hk (bk BK429) NB429_0
         have _ := kv hk (bk BK430) NB430_0
         have _ := kv hk (bk BK438) NB438_0
         have _ := ku (qk _ _ _ HK) hk
         have _ := ra (hb)
         have _ := ra (hi)
         clear HO_431001 BK429 BK430 BK438 HK HB HI0
         rename_i HO_431001 BK429 BK430 BK438 HK HB HI0
         (try clear hb)
         (try clear hb2)
         (try clear hk)
         (try clear hi)
         refine hK.out _ _ ⟨(blk_cell BK430.out 0).trans rfl, (blk_cell BK430.out 1).trans rfl⟩ (fun hHeld => ?_)
         clear hK K
         refine nm 86 ?_
         refine pu 5 87 (bl 7 63) ?_
         refine pu 6 88 (bl 7 127) ?_
         refine done_ (by kernel_rfl) ?_
         try go_wp2
         have _ := ra (Kd.R_drew HO_431001.out)
         have _ := ra (blk_drew BK429.out)
         have _ := ra (blk_drew BK430.out)
         have _ := ra (blk_drew BK438.out)
         have _ := ra (IsS127.drew HI0.out)
         have _ := ra (keep_drew HK.out)
         have _ := ra (below_drew1 HB.out)
         clear HO_431001 BK429 BK430 BK438 HI0 HK HB
         rename_i HO_431001 BK429 BK430 BK438 HI0 HK HB
         refine start_ (n := 8) (S := fun w' => w'.cell? ⟨gb430, 0, none⟩ = some (.string a1) ∧ w'.cell? ⟨gb430, 1, none⟩ = some (.slice Ao102 x431001_2.length co102)) (ds := [7]) #[false, false, false, false, false, false, false, false] (by kernel_rfl) rfl rfl ⟨(blk_cell BK430.out 0).trans rfl, (blk_cell BK430.out 1).trans rfl⟩ (fun hHeld => ?_); refine with_tabW spec_l2Tube.tab21 spec_l2Tube.bits21 (fun HT_ HW_ => ?_)
         generalize w103.drew = w104 at HO_431001 BK429 BK430 BK438 HI0 HK HB hHeld ⊢
         refine pu 0 89 (bl 8 1) ?_
         refine pu 2 91 (bl 8 5) ?_
         refine tk 1 90 (bl 8 7) ?_ hHeld
         refine oe 3 92 (bl 8 15) (fun K hK => ?_)
         refine gs Try.func110 #[.pointer (some ⟨g, 0, none⟩)] ?_
         with_reducible refine (spec_l1DrawBox.calls k2 g s0_0 t466 t467 t468 t469 t470 t471 t472 t473 w0 _ ?side1 ?side2 A99.out).mono ?_
         (case side1 => exact qi HI0)
         (case side2 => exact qb HI0 HB)
         rintro e w105 ⟨rfl, hi, hb, hk⟩
         refine ⟨_, rfl, ?_⟩
         have _ := ra (Kd.R_mono (Kd.R_keep (IsS127.apart (show IsS127 w0 _ g s0_0 t466 from qi HI0) (rq HO_431001) (by decide)) hk (fun _ h => h.2)) (fun _ h => h.1))
         have _ := kv hk (bk BK429) NB429_0
         have _ := kv hk (bk BK430) NB430_0
         have _ := kv hk (bk BK438) NB438_0
         have _ := ku (qk _ _ _ HK) hk
         have _ := ra (hb)
         have _ := ra (hi)
         clear HO_431001 BK429 BK430 BK438 HK HB HI0
         rename_i HO_431001 BK429 BK430 BK438 HK HB HI0
         (try clear hb)
         (try clear hb2)
         (try clear hk)
         (try clear hi)
         refine hK.out _ _ ⟨(blk_cell BK430.out 0).trans rfl, (blk_cell BK430.out 1).trans rfl⟩ (fun hHeld => ?_)
         clear hK K
         refine nm 92 ?_
         refine oe 4 93 (bl 8 31) (fun K hK => ?_)
         refine value_ (w1 := ?_) (v := ?_) (by rfl) rfl ?_ ?_
         rotate_left 2
         ·go_simp
          constructor
          ·rfl
          ·rfl
         refine hK.out _ _ ⟨(blk_cell (blk_alloc BK430.out _) 0).trans rfl, (blk_cell (blk_alloc BK430.out _) 1).trans rfl⟩ (fun hHeld => ?_)
         clear hK K
         refine nm 93 ?_
         refine oe 5 94 (bl 8 63) (fun K hK => ?_)
         refine Kd.R_append_step k95 w.heap.size (by rfl) (.tmp 90) (.tmp 93) 38 95 (.agg #[(.int .i64 0), (.int .i64 0), (.int .i64 0), (.int .i64 0), (.int .i64 0), (.int .i64 0)]) 48 rfl Try.underlying38 info95 rfl (by decide) (by omega) (.slice Ao102 x431001_2.length co102) x431001_2 (⟨t467, t468, t469, t470, t471, t472⟩ : S95) [.int .i64 t467, .int .i64 t468, .int .i64 t469, .int .i64 t470, .int .i64 t471, .int .i64 t472] (fun k_ => k_ ≠ gb438) (fun _ => False) rfl rfl ?aP (fun _ hk => hk.elim) ?aF ?aO (Below.refl _ _) ?aS ?aL ?_
         (case aP => exact k95_mkM _ _ _ (⟨t467, t468, t469, t470, t471, t472⟩ : S95))
         (case aF => exact (fun k_ hk => Kd.freshB (g := gb438) (o := .cells #[.int .i64 x439000_1, .int .i64 x439001_1, .int .i64 x439002_1, .int .i64 x439003_1, .int .i64 x439004_1, .int .i64 x439005_1] 95 (0, 0)) (bk BK438) k_ hk))
         (case aO => exact (rq HO_431001))
         (case aS => exact (keep_size (w := w) (g := g) (row := none) (qk _ _ _ HK)))
         (case aL => have := LMc100.out; omega)
         intro v475 w106 ho hb hg hat
         rw [← Ny474.out] at ho
         have _ := ra (blk_grown (g := gb429) (o := .cells #[.string (⟨#[]⟩ : ByteArray), .slice none 0 0] 40 (0, 0)) (bk BK429) hg (Kd.R_ne HO_431001.out BK429.out (by decide)))
         have _ := ra (blk_grown (g := gb430) (o := .cells #[.string a1, .slice Ao102 x431001_2.length co102] 40 (0, 0)) (bk BK430) hg (Kd.R_ne HO_431001.out BK430.out (by decide)))
         have _ := ra (blk_grown (g := gb438) (o := .cells #[.int .i64 x439000_1, .int .i64 x439001_1, .int .i64 x439002_1, .int .i64 x439003_1, .int .i64 x439004_1, .int .i64 x439005_1] 95 (0, 0)) (bk BK438) hg (Kd.R_away HO_431001.out (fun _ hk => hk)))
         have _ := ra (IsS127.grown (qi HI0) hg (IsS127.own_ne HI0.out HO_431001.out (by decide)))
         have _ := ra (below_weaken (qb HI0 HB) HL.out hb)
         have _ := ra (KeepBut.trans (qk _ _ _ HK) (KeepBut.of_grown hg g) (Kd.R_base2 HO_431001.out))
         have _ := ra (ho)
         clear BK429 BK430 BK438 HI0 HB HK HO_431001
         rename_i BK429 BK430 BK438 HI0 HB HK HO476
         clear ho hb hg hat
         obtain ⟨Ao107, co107, eo107⟩ := Kd.R_slice HO476.out
         (first | subst eo107 | (injection eo107 with f1_ f2_ f3_; have f4_ := f1_.symm; have f5_ := f3_.symm; clear f1_ f2_ f3_; subst f4_; subst f5_))
         refine hK.out _ _ ⟨(blk_cell BK430.out 0).trans rfl, (blk_cell BK430.out 1).trans rfl⟩ (fun hHeld => ?_)
         clear hK K
         refine nm 94 ?_
         refine pu 6 95 (bl 8 127) ?_
         refine last_ (i := 7) (N := none) #[true, true, true, true, true, true, true, true] rfl rfl (one_of HT_.out (by kernel_rfl)) (by decide) (fun K hK => ?_)
         have hs108 : w106.cell? ⟨gb430, 1, none⟩ = some (.slice Ao102 x431001_2.length co102) := (blk_cell BK430.out 1).trans rfl
         have hfs108 := blk_frozen BK430.out 1
         have hns108_0 := NB429_430.out
         have hns108_2 := NB438_430.out
         have hms108_0 := NB430_429.out
         have hms108_2 := NB430_438.out
         refine skip_ (w1 := ?_) (by rfl) rfl ?_ ?_
         rotate_left
         ·go_simp
          rfl
         refine hK.out _ _ ?_
         clear hK K
         refine done_ (done_of HT_.out (by kernel_rfl)) ?_
         try go_wp2
         go_roundg k2
         case measure => have := HK1.out; have := HK2.out; omega
         case rel => exact ⟨(t473), (y474), (.slice Ao107 y474.length co107), H', ⟨by have := HK1.out; have := HK2.out; omega⟩, ⟨by (with_reducible repeat (first | apply Kd.R_alloc | apply Kd.R_drewN | apply Kd.R_drew)); exact Kd.R_mono (rf (Kd.R_types HO476.out BK430.out (by decide))) (fun _ hk => hk.1)⟩, ⟨bk BK429⟩, ⟨bp BK430⟩, ⟨bk BK438⟩, ⟨by exact qi HI0⟩, ⟨by exact qk _ _ _ HK⟩, ⟨by exact qb HI0 HB⟩⟩
        ·rw [if_neg c100] at H
         exact absurd H (by simp)
       ·rw [if_neg c98] at H
        have c98b0 : decide ((x431001_2.length : Int) < (wrap64 (40 - t465))) = false := decide_eq_false c98
        clear c98
        simp only [Option.some.injEq, Prod.mk.injEq] at H
        obtain ⟨rfl, rfl, rfl⟩ := H
        try go_wp2
        have _ := ra (Kd.R_drew HO_431001.out)
        have _ := ra (blk_drew BK429.out)
        have _ := ra (blk_drew BK430.out)
        have _ := ra (blk_drew BK438.out)
        have _ := ra (IsS127.drew HI0.out)
        have _ := ra (keep_drew HK.out)
        have _ := ra (below_drew1 HB.out)
        clear HO_431001 BK429 BK430 BK438 HI0 HK HB
        rename_i HO_431001 BK429 BK430 BK438 HI0 HK HB
        obtain ⟨Ao110, co110, eo110⟩ := Kd.R_slice HO_431001.out
        (first | subst eo110 | (injection eo110 with f1_ f2_ f3_; have f4_ := f1_.symm; have f5_ := f3_.symm; clear f1_ f2_ f3_; subst f4_; subst f5_))
        refine start_ (n := 7) (S := fun w' => w'.cell? ⟨gb430, 0, none⟩ = some (.string a1) ∧ w'.cell? ⟨gb430, 1, none⟩ = some (.slice Ao110 x431001_2.length co110)) (ds := []) (bl 7 0) (by kernel_rfl) rfl rfl ⟨(blk_cell BK430.out 0).trans rfl, (blk_cell BK430.out 1).trans rfl⟩ (fun hHeld => ?_)
        generalize wr.drew = w109 at HO_431001 BK429 BK430 BK438 HI0 HK HB hHeld ⊢
        refine pu 0 82 (bl 7 1) ?_
        refine pu 3 85 (bl 7 9) ?_
        refine tk 1 83 (bl 7 11) ?_ hHeld
        refine pu 2 84 (bl 7 15) ?_
        refine oe 4 86 (bl 7 31) (fun K hK => ?_)
        refine gs Try.func87 #[.pointer (some ⟨g, 0, none⟩), .int .i64 2] ?_
        with_reducible refine (spec_l1Rd_pick.calls k2 g s0_0 x1001_2 2 t465 t466 w0 _ ?side1 ?side2 A97.out).mono ?_
        (case side1 => exact qi HI0)
        (case side2 => exact qb HI0 HB)
        rintro e w111 ⟨rfl, hi, hb, hk⟩
        refine ⟨_, rfl, ?_⟩
        have _ := ra (Kd.R_mono (Kd.R_keep (IsS127.apart (show IsS127 w0 _ g s0_0 x1001_2 from qi HI0) (rq HO_431001) (by decide)) hk (fun _ h => h.2)) (fun _ h => h.1))
        have _ := kv hk (bk BK429) NB429_0
        have _ := kv hk (bk BK430) NB430_0
        have _ := kv hk (bk BK438) NB438_0
        have _ := ku (qk _ _ _ HK) hk
        have _ := ra (hb)
        have _ := ra (hi)
        clear HO_431001 BK429 BK430 BK438 HK HB HI0
        rename_i HO_431001 BK429 BK430 BK438 HK HB HI0
        (try clear hb)
        (try clear hb2)
        (try clear hk)
        (try clear hi)
        refine hK.out _ _ ⟨(blk_cell BK430.out 0).trans rfl, (blk_cell BK430.out 1).trans rfl⟩ (fun hHeld => ?_)
        clear hK K
        refine nm 86 ?_
        refine pu 5 87 (bl 7 63) ?_
        refine pu 6 88 (bl 7 127) ?_
        refine done_ (by kernel_rfl) ?_
        have hnb112 := NB430_429.out
        have hnc112 := NB429_430.out
        have hnb113 := NB430_438.out
        have hnc113 := NB438_430.out
        have hnb114 := NB430_0.out
        have hnc114 := NB0_430.out
        obtain ⟨hcz115_0, hcz115_1, hfz115_0, hfz115_1⟩ := zc2 BK430
        have hnb116 := NB429_438.out
        have hnc116 := NB438_429.out
        have hnb117 := NB429_0.out
        have hnc117 := NB0_429.out
        obtain ⟨hcz118_0, hcz118_1, hfz118_0, hfz118_1⟩ := zc2 BK429
        try go_wp2
        refine bodyPost_ret (results_cell_row rfl _ _ gb429 40 #[.string a1, .slice Ao110 x431001_2.length co110] (0, 0) _ rfl (bp BK429) Try.underlying40 rfl (by kernel_rfl)) rfl ?_
        exact ⟨_, re, by (with_reducible repeat (first | apply Kd.R_alloc | apply Kd.R_drewN | apply Kd.R_drew)); exact Kd.R_mono (rf (Kd.R_types HO_431001.out BK429.out (by decide))) (fun _ hk => trivial), by exact qi HI0, by exact qb HI0 HB, by exact qk _ _ _ HK⟩
    ·rw [if_neg c95] at H
     have c95b0 : (t463 == 0) = false := beq_eq_false_iff_ne.mpr c95
     have c95b1 : (t463 != 0) = true := bne_iff_ne.mpr c95
     simp only [Option.some.injEq, Prod.mk.injEq] at H
     obtain ⟨rfl, rfl, rfl⟩ := H
     go_wp2_with (first | ((with_reducible refine gate_callee (f := 87) rfl ?_); refine gl (some 80) Try.func87 #[.pointer (some ⟨g, 0, none⟩), .int .i64 40] ?_; (with_reducible refine (spec_l1Rd_pick.calls k1 g s0_0 x1001_1 40 t463 t464 w0 _ ?side1 ?side2 A94.out).mono ?_); (case side1 => exact qi HI0); (case side2 => exact qb HI0 HB); rintro e w119 ⟨rfl, hi, hb, hk⟩; refine ⟨_, rfl, ?_⟩; have _ := ra (Kd.R_mono (Kd.R_keep (IsS127.apart (show IsS127 w0 _ g s0_0 x1001_1 from qi HI0) (rq HO_431001) (by decide)) hk (fun _ h => h.2)) (fun _ h => h.1)); have _ := kv hk (bk BK429) NB429_0; have _ := kv hk (bk BK430) NB430_0; have _ := kv hk (bk BK438) NB438_0; have _ := ku (qk _ _ _ HK) hk; have _ := ra (hb); have _ := ra (hi); clear HO_431001 BK429 BK430 BK438 HK HB HI0; rename_i HO_431001 BK429 BK430 BK438 HK HB HI0; (try clear hb); (try clear hb2); (try clear hk); (try clear hi); have hnb120 := NB430_429.out; have hnc120 := NB429_430.out; have hnb121 := NB430_438.out; have hnc121 := NB438_430.out; have hnb122 := NB430_0.out; have hnc122 := NB0_430.out; obtain ⟨hcz123_0, hcz123_1, hfz123_0, hfz123_1⟩ := zc2 BK430; have hnb124 := NB429_438.out; have hnc124 := NB438_429.out; have hnb125 := NB429_0.out; have hnc125 := NB0_429.out; obtain ⟨hcz126_0, hcz126_1, hfz126_0, hfz126_1⟩ := zc2 BK429; obtain ⟨Ao127, co127, eo127⟩ := Kd.R_slice HO_431001.out; subst eo127))
     refine bodyPost_ret (results_cell_row rfl _ _ gb429 40 #[.string a1, .slice Ao127 x431001_1.length co127] (0, 0) _ rfl (bp BK429) Try.underlying40 rfl (by kernel_rfl)) rfl ?_
     exact ⟨_, re, by (with_reducible repeat (first | apply Kd.R_alloc | apply Kd.R_drewN | apply Kd.R_drew)); exact Kd.R_mono (rf (Kd.R_types HO_431001.out BK429.out (by decide))) (fun _ hk => trivial), by exact qi HI0, by exact qb HI0 HB, by exact qk _ _ _ HK⟩
def spec_l2SpoilTube.T5 : Bool × List (List Nat × List Nat) := (true, [([], []), ([0], [0]), ([], []), ([], []), ([], []), ([4], [4]), ([], []), ([5, 6], [5, 6]), ([7], [7]), ([3, 8], [3, 8]), ([1, 2, 0, 1, 2, 3, 4, 5, 6, 7, 8, 9], [1, 2]), ([10, 9, 9, 0, 1, 2, 3, 4, 5, 6, 7, 8, 9], [9, 10])])
def spec_l2SpoilTube.B5 : List Nat := [0, 1, 0, 0, 0, 16, 0, 112, 240, 504, 1023, 2047]
theorem spec_l2SpoilTube.tab5 : rtab .any (opsOf Try.f88 5) = spec_l2SpoilTube.T5 := by kernel_rfl
theorem spec_l2SpoilTube.bits5 : waitsOk spec_l2SpoilTube.T5.2 spec_l2SpoilTube.B5 = true := by kernel_rfl
def spec_l2SpoilTube.T11 : Bool × List (List Nat × List Nat) := (true, [([], []), ([0], [0]), ([], []), ([2], [2]), ([3], [3]), ([1, 4, 3], [1, 4]), ([0, 1, 2, 3, 4, 5], []), ([6, 5, 5, 0, 1, 2, 3, 4, 5], [5, 6])])
def spec_l2SpoilTube.B11 : List Nat := [0, 1, 0, 4, 12, 31, 63, 127]
theorem spec_l2SpoilTube.tab11 : rtab .any (opsOf Try.f88 11) = spec_l2SpoilTube.T11 := by kernel_rfl
theorem spec_l2SpoilTube.bits11 : waitsOk spec_l2SpoilTube.T11.2 spec_l2SpoilTube.B11 = true := by kernel_rfl
set_option maxHeartbeats 8000000 in
set_option maxRecDepth 100000 in
theorem spec_l2SpoilTube.calls (k : Nat) (g : Nat) (s0_0 : List Int) (s0_1 : Int) (a1_0 : ByteArray) (A1_1 : Option Addr) (c1_1 : Nat) (l1_1 : List (S95)) (r1 : ByteArray) (r2 : List (S95)) (r3 : Int) (w0 w : World) (hI : IsS127 w0 w g s0_0 s0_1) (hB : Below w0.heap.size w0 w) (hr1_1 : ∀ W_, KeepBut w W_ g none → Kd.C k95 W_ A1_1 l1_1.length l1_1) (hc1_1 : l1_1.length ≤ c1_1) (h : spec_l2SpoilTube.f k s0_0 s0_1 a1_0 l1_1 = some (r1, r2, r3)) :
  Calls Try.prog 88 #[.pointer (some ⟨g, 0, none⟩), .agg #[.string a1_0, .slice A1_1 l1_1.length c1_1]] w fun e w' => ∃ v1_ : Value, e = .returned (.agg #[.string r1, v1_]) ∧ Kd.R k95 95 w' w.heap.size (fun _ => True) v1_ r2 ∧ IsS127 w0 w' g s0_0 r3 ∧ Below w0.heap.size w0 w' ∧ KeepBut w w' g none := by
 have hu40 := Try.underlying40
 have hu95 := Try.underlying95
 have HR1_1 := Aside0.mk hr1_1
 have HC1_1 := Aside0.mk hc1_1
 clear hr1_1 hc1_1
 have HI0 := Aside0.mk hI
 have HK := ra (KeepBut.refl w g none)
 have HL := Aside0.mk hB.size
 clear hI
 have HW0 := Aside0.mk hB.size
 have HB := Aside0.mk hB
 clear hB
 have H : ((spec_l2Copy.f a1_0 l1_1).bind fun bt567 => ((spec_l1Rd_pick.f k s0_0 s0_1 4).bind fun bt572 => (if bt572.1 = 0 then ((spec_l1Rd_pick.f k s0_0 bt572.2 2).bind fun bt574 => ((spec_l1Many.f k (⟨#[110]⟩ : ByteArray) (wrap64 (8 + bt574.1))).bind fun t576 => ((spec_l1Rd_of.f k s0_0 bt574.2 (([(⟨#[]⟩ : ByteArray), (⟨#[65]⟩ : ByteArray), t576] : List ByteArray))).bind fun bt580 => (some (bt580.1, bt567.2, bt580.2))))) else (if bt572.1 = 1 then ((spec_l1Rd_pick.f k s0_0 bt572.2 2).bind fun bt582 => (spec_l2SpoilTube.l0 k (wrap64 (40 + bt582.1)) s0_0 bt582.2 bt567.1 bt567.2)) else (if (bt567.2.length : Int) > 0 then ((spec_l1Rd_pick.f k s0_0 bt572.2 (bt567.2.length : Int)).bind fun bt594 => (if 0 ≤ bt594.1 then (if bt594.1 < (bt567.2.length : Int) then ((spec_l1SpoilBox.f k s0_0 bt594.2 ((rd_T95 bt567.2 bt594.1).f0) ((rd_T95 bt567.2 bt594.1).f1) ((rd_T95 bt567.2 bt594.1).f2) ((rd_T95 bt567.2 bt594.1).f3) ((rd_T95 bt567.2 bt594.1).f4) ((rd_T95 bt567.2 bt594.1).f5)).bind fun bt597 => (some (bt567.1, (bt567.2.set (bt594.1 : Int).toNat (⟨bt597.1, bt597.2.1, bt597.2.2.1, bt597.2.2.2.1, bt597.2.2.2.2.1, bt597.2.2.2.2.2.1⟩ : S95)), bt597.2.2.2.2.2.2))) else (none)) else (none))) else (some (bt567.1, bt567.2, bt572.2))))))) = some (r1, r2, r3) := h
 clear h
 obtain ⟨⟨t567, t568⟩, A3, H⟩ := bo H
 try dsimp only at H
 obtain ⟨⟨t572, t573⟩, A4, H⟩ := bo H
 try dsimp only at H
 by_cases c5 : t572 = 0
 ·rw [if_pos c5] at H
  have c5b0 : (t572 == 0) = true := beq_iff_eq.mpr c5
  have c5b1 : (t572 != 0) = false := bne_eq_false_iff_eq.mpr c5
  clear c5
  obtain ⟨⟨t574, t575⟩, A6, H⟩ := bo H
  try dsimp only at H
  obtain ⟨t576, A7, H⟩ := bo H
  obtain ⟨y577, hy_⟩ : ∃ y_ : List ByteArray, y_ = (([(⟨#[]⟩ : ByteArray), (⟨#[65]⟩ : ByteArray), t576] : List ByteArray)) := ⟨_, rfl⟩
  replace H : ((spec_l1Rd_of.f k s0_0 t575 y577).bind fun bt580 => (some (bt580.1, t568, bt580.2))) = some (r1, r2, r3) := yh
  have Ny577 := ra hy_
  clear hy_
  obtain ⟨⟨t580, t581⟩, A8, H⟩ := bo H
  try dsimp only at H
  simp only [Option.some.injEq, Prod.mk.injEq] at H
  obtain ⟨rfl, rfl, rfl⟩ := H
  go_enter Try.func88, Try.ntmps88
  go_wp2_with (first | ((with_reducible refine gate_dst (N := 3) rfl ?_); refine be 3 #[.string a1_0, .slice A1_1 l1_1.length c1_1] 40 ?_; intro gb565 hg w9 hbox hb; have _ := ra (IsS127.below (qi HI0) hb); have _ := kt (qk _ _ _ HK) hb; have _ := ra (below_step (qb HI0 HB) hb); have _ := ra (hbox); have _ := ns hg (qk w _ g HK); have _ := nt hg HW0 (qk w _ g HK); have _ := nl hg (qi HI0); have _ := nr hg (qi HI0); clear HI0 HK HB; rename_i HI0 HK HB BK565 GW565 GE565 NB0_565 NB565_0; clear hb hbox hg) | ((with_reducible refine gate_dst (N := 4) rfl ?_); refine be 4 #[.string (⟨#[]⟩ : ByteArray), .slice none 0 0] 40 ?_; intro gb566 hg w10 hbox hb; have _ := ra (IsS127.below (qi HI0) hb); have _ := bb (bk BK565) hb; have _ := kt (qk _ _ _ HK) hb; have _ := ra (below_step (qb HI0 HB) hb); have _ := ra (hbox); have _ := ns hg (qk w _ g HK); have _ := nt hg HW0 (qk w _ g HK); have _ := bn hg (bk BK565); have _ := bm hg (bk BK565); have _ := nl hg (qi HI0); have _ := nr hg (qi HI0); clear HI0 BK565 HK HB; rename_i HI0 BK565 HK HB BK566 GW566 GE566 NB565_566 NB566_565 NB0_566 NB566_0; clear hb hbox hg; have hnb11 := NB565_566.out; have hnc11 := NB566_565.out; have hnb12 := NB565_0.out; have hnc12 := NB0_565.out; obtain ⟨hcz13_0, hcz13_1, hfz13_0, hfz13_1⟩ := zc2 BK565) | ((with_reducible refine gate_callee (f := 89) rfl ?_); refine gl (some 9) Try.func89 #[.agg #[.string a1_0, .slice A1_1 l1_1.length c1_1]] ?_; (with_reducible refine (spec_l2Copy.calls a1_0 _ _ l1_1 t567 t568 _ ?side1 ?side2 A3.out).mono ?_); (case side1 => exact Kd.C_foot_now HR1_1.out (qk _ _ _ HK)); (case side2 => exact HC1_1.out); rintro e w14 ⟨v569, rfl, ho0, hb⟩; refine ⟨_, rfl, ?_⟩; have _ := ra (Kd.R_lower ho0 (keep_size (w := w) (g := g) (row := none) (qk _ _ _ HK))); have _ := ra (IsS127.below (qi HI0) hb); have _ := bb (bk BK565) hb; have _ := bb (bk BK566) hb; have _ := kt (qk _ _ _ HK) hb; have _ := ra (below_step (qb HI0 HB) hb); clear HI0 BK565 BK566 HK HB; rename_i HO570 HI0 BK565 BK566 HK HB; (try clear hb); (try clear hb2); (try clear hk); (try clear hi); (try clear ho0)) | ((with_reducible refine gate_dst (N := 5) rfl ?_); refine be 5 #[.string (⟨#[]⟩ : ByteArray), .slice none 0 0] 40 ?_; intro gb571 hg w15 hbox hb; have _ := ra (Kd.R_below (rq HO570) hb); have _ := ra (IsS127.below (qi HI0) hb); have _ := bb (bk BK565) hb; have _ := bb (bk BK566) hb; have _ := kt (qk _ _ _ HK) hb; have _ := ra (below_step (qb HI0 HB) hb); have _ := ra (hbox); have _ := ns hg (qk w _ g HK); have _ := nt hg HW0 (qk w _ g HK); have _ := bn hg (bk BK565); have _ := bm hg (bk BK565); have _ := bn hg (bk BK566); have _ := bm hg (bk BK566); have _ := nl hg (qi HI0); have _ := nr hg (qi HI0); clear HO570 HI0 BK565 BK566 HK HB; rename_i HO570 HI0 BK565 BK566 HK HB BK571 GW571 GE571 NB565_571 NB571_565 NB566_571 NB571_566 NB0_571 NB571_0; clear hb hbox hg; have hnb16 := NB571_565.out; have hnc16 := NB565_571.out; have hnb17 := NB571_566.out; have hnc17 := NB566_571.out; have hnb18 := NB571_0.out; have hnc18 := NB0_571.out; obtain ⟨hcz19_0, hcz19_1, hfz19_0, hfz19_1⟩ := zc2 BK571; obtain ⟨Ao20, co20, eo20⟩ := Kd.R_slice HO570.out; subst eo20) | ((with_reducible refine gate_callee (f := 87) rfl ?_); refine gl (some 11) Try.func87 #[.pointer (some ⟨g, 0, none⟩), .int .i64 4] ?_; (with_reducible refine (spec_l1Rd_pick.calls k g s0_0 s0_1 4 t572 t573 w0 _ ?side1 ?side2 A4.out).mono ?_); (case side1 => exact qi HI0); (case side2 => exact qb HI0 HB); rintro e w21 ⟨rfl, hi, hb, hk⟩; refine ⟨_, rfl, ?_⟩; have _ := kv hk (bk BK565) NB565_0; have _ := kv hk (bk BK566) NB566_0; have _ := ra (Kd.R_mono (Kd.R_keep (IsS127.apart (show IsS127 w0 _ g s0_0 s0_1 from qi HI0) (Kd.R_mono (rf (Kd.R_types HO570.out BK571.out (by decide))) (fun _ h_ => h_.1)) (by decide)) hk (fun _ h => h.2)) (fun _ h => h.1)); have _ := ra (KeepBut.blk hk (g' := gb571) (o := .cells #[.string t567, .slice Ao20 t568.length co20] 40 (0, 0)) (bp BK571) NB571_0.out (by simp)); have _ := ku (qk _ _ _ HK) hk; have _ := ra (hb); have _ := ra (hi); clear BK565 BK566 HO570 BK571 HK HB HI0; rename_i BK565 BK566 HO570 BK571 HK HB HI0; (try clear hb); (try clear hb2); (try clear hk); (try clear hi)) | ((with_reducible refine gate_callee (f := 87) rfl ?_); refine gl (some 36) Try.func87 #[.pointer (some ⟨g, 0, none⟩), .int .i64 2] ?_; (with_reducible refine (spec_l1Rd_pick.calls k g s0_0 t573 2 t574 t575 w0 _ ?side1 ?side2 A6.out).mono ?_); (case side1 => exact qi HI0); (case side2 => exact qb HI0 HB); rintro e w22 ⟨rfl, hi, hb, hk⟩; refine ⟨_, rfl, ?_⟩; have _ := kv hk (bk BK565) NB565_0; have _ := kv hk (bk BK566) NB566_0; have _ := ra (Kd.R_mono (Kd.R_keep (IsS127.apart (show IsS127 w0 _ g s0_0 t573 from qi HI0) (rq HO570) (by decide)) hk (fun _ h => h.2)) (fun _ h => h.1)); have _ := kv hk (bk BK571) NB571_0; have _ := ku (qk _ _ _ HK) hk; have _ := ra (hb); have _ := ra (hi); clear BK565 BK566 HO570 BK571 HK HB HI0; rename_i BK565 BK566 HO570 BK571 HK HB HI0; (try clear hb); (try clear hb2); (try clear hk); (try clear hi)) | ((with_reducible refine gate_callee (f := 109) rfl ?_); refine gl (some 38) Try.func109 #[.string (⟨#[110]⟩ : ByteArray), .int .i64 (wrap64 (8 + t574))] ?_; (with_reducible refine (spec_l1Many.calls k (⟨#[110]⟩ : ByteArray) (wrap64 (8 + t574)) t576 _ A7.out).mono ?_); rintro e w' ⟨rfl, ⟨nd, rfl⟩⟩; refine ⟨_, rfl, ?_⟩; (try (rw [drewN_self w22]; generalize hq_ : World.drewN w22 _ = w22; have _ : Aside0 (Kd.R k95 95 w22 w.heap.size (fun _ => True) (.slice Ao20 t568.length co20) t568) := ⟨by rw [← hq_]; exact (rq HO570)⟩; have _ : Aside0 (w22.heap[gb565]? = some (.cells #[.string a1_0, .slice A1_1 l1_1.length c1_1] 40 (0, 0))) := ⟨by rw [← hq_]; exact (bk BK565)⟩; have _ : Aside0 (w22.heap[gb566]? = some (.cells #[.string (⟨#[]⟩ : ByteArray), .slice none 0 0] 40 (0, 0))) := ⟨by rw [← hq_]; exact (bk BK566)⟩; have _ : Aside0 (w22.heap[gb571]? = some (.cells #[.string t567, .slice Ao20 t568.length co20] 40 (0, 0))) := ⟨by rw [← hq_]; exact (bk BK571)⟩; have _ : Aside0 (IsS127 w0 w22 g s0_0 t575) := ⟨by rw [← hq_]; exact (qi HI0)⟩; have _ : Aside0 (KeepBut w w22 g none) := ⟨by rw [← hq_]; exact (qk _ _ _ HK)⟩; have _ : Aside0 (Below w0.heap.size w0 w22) := ⟨by rw [← hq_]; exact (qb HI0 HB)⟩; clear HO570 BK565 BK566 BK571 HI0 HK HB hq_; rename_i HO570 BK565 BK566 BK571 HI0 HK HB))) | ((with_reducible refine gate_dst (N := 39) rfl ?_); refine Kd.R_lit Kd.string _ 9 ?hg (N := 39) ?hd (xs := ([(⟨#[]⟩ : ByteArray), (⟨#[65]⟩ : ByteArray), t576] : List ByteArray)) (inner := [.string (⟨#[]⟩ : ByteArray), .string (⟨#[65]⟩ : ByteArray), .string t576]) (ok := fun _ => True) (okp := fun _ => True) ?hr ?hp (fun _ hk => hk) trivial (Below.refl _ _) (Nat.le_refl _) (by simp) ?_; (case hd => rfl); (case hg => rfl); (case hr => first | (go_simp; done) | (go_simp; rfl)); (case hp => exact (Reps.one (show Kd.M Kd.string _ _ _ (⟨#[]⟩ : ByteArray) [.string (⟨#[]⟩ : ByteArray)] from rfl) (Reps.one (show Kd.M Kd.string _ _ _ (⟨#[65]⟩ : ByteArray) [.string (⟨#[65]⟩ : ByteArray)] from rfl) (Reps.one (show Kd.M Kd.string _ _ _ t576 [.string t576] from rfl) (Reps.none _ _))))); intro v578 w23 ho24 hb hg_ hnew_; clear hg_ hnew_; (first | rw [← Ny577.out] at ho24 | (simp only [Int.reduceToNat] at ho24; rw [← Ny577.out] at ho24)); have _ := ra (Kd.R_below (rq HO570) hb); have _ := ra (Kd.R_lower ho24 (keep_size (w := w) (g := g) (row := none) (qk _ _ _ HK))); have _ := ra (IsS127.below (qi HI0) hb); have _ := bb (bk BK565) hb; have _ := bb (bk BK566) hb; have _ := bb (bk BK571) hb; have _ := kt (qk _ _ _ HK) hb; have _ := ra (below_step (qb HI0 HB) hb); clear HO570 HI0 BK565 BK566 BK571 HK HB; rename_i HO570 HO579 HI0 BK565 BK566 BK571 HK HB; clear hb ho24; obtain ⟨Ao25, co25, eo25⟩ := Kd.R_slice HO579.out; subst eo25) | ((with_reducible refine gate_callee (f := 108) rfl ?_); refine gl (some 40) Try.func108 #[.pointer (some ⟨g, 0, none⟩), .slice Ao25 y577.length co25] ?_; (with_reducible refine (spec_l1Rd_of.calls k g s0_0 t575 _ _ y577 t580 t581 w0 _ ?side1 ?side2 ?side3 ?side4 ?side5 A8.out).mono ?_); (case side1 => exact qi HI0); (case side2 => exact qb HI0 HB); (case side3 => exact sr HO579); (case side4 => exact (Kd.R_reads' HO579.out).2.1); (case side5 => exact far_slice (IsS127.own_ne HI0.out HO579.out (by decide))); rintro e w26 ⟨rfl, hi, hb, hk⟩; refine ⟨_, rfl, ?_⟩; have _ := kv hk (bk BK565) NB565_0; have _ := kv hk (bk BK566) NB566_0; have _ := ra (Kd.R_mono (Kd.R_keep (IsS127.apart (show IsS127 w0 _ g s0_0 t575 from qi HI0) (rq HO570) (by decide)) hk (fun _ h => h.2)) (fun _ h => h.1)); have _ := kv hk (bk BK571) NB571_0; have _ := ra (Kd.R_mono (Kd.R_keep (IsS127.apart (show IsS127 w0 _ g s0_0 t575 from qi HI0) (rq HO579) (by decide)) hk (fun _ h => h.2)) (fun _ h => h.1)); have _ := ku (qk _ _ _ HK) hk; have _ := ra (hb); have _ := ra (hi); clear BK565 BK566 HO570 BK571 HO579 HK HB HI0; rename_i BK565 BK566 HO570 BK571 HO579 HK HB HI0; (try clear hb); (try clear hb2); (try clear hk); (try clear hi); obtain ⟨hcz27_0, hcz27_1, hfz27_0, hfz27_1⟩ := zc2 BK571; have hnb28 := NB566_0.out; have hnc28 := NB0_566.out; obtain ⟨hcz29_0, hcz29_1, hfz29_0, hfz29_1⟩ := zc2 BK566))
  refine bodyPost_ret (results_cell_row rfl _ _ gb566 40 #[.string t580, .slice Ao20 t568.length co20] (0, 0) _ rfl (bp BK566) Try.underlying40 rfl (by kernel_rfl)) rfl ?_
  exact ⟨_, re, by (with_reducible repeat (first | apply Kd.R_alloc | apply Kd.R_drewN | apply Kd.R_drew)); exact Kd.R_mono (rf (Kd.R_types (Kd.R_types HO570.out BK571.out (by decide)) BK566.out (by decide))) (fun _ hk => trivial), by exact qi HI0, by exact qb HI0 HB, by exact qk _ _ _ HK⟩
 ·rw [if_neg c5] at H
  have c5b0 : (t572 == 0) = false := beq_eq_false_iff_ne.mpr c5
  have c5b1 : (t572 != 0) = true := bne_iff_ne.mpr c5
  by_cases c30 : t572 = 1
  ·rw [if_pos c30] at H
   have c30b0 : (t572 == 1) = true := beq_iff_eq.mpr c30
   have c30b1 : (t572 != 1) = false := bne_eq_false_iff_eq.mpr c30
   clear c30
   obtain ⟨⟨t582, t583⟩, A31, H⟩ := bo H
   try dsimp only at H
   have H' := Aside0.mk H
   clear H
   go_enter Try.func88, Try.ntmps88
   go_wp2_with (first | ((with_reducible refine gate_dst (N := 3) rfl ?_); refine be 3 #[.string a1_0, .slice A1_1 l1_1.length c1_1] 40 ?_; intro gb565 hg w32 hbox hb; have _ := ra (IsS127.below (qi HI0) hb); have _ := kt (qk _ _ _ HK) hb; have _ := ra (below_step (qb HI0 HB) hb); have _ := ra (hbox); have _ := ns hg (qk w _ g HK); have _ := nt hg HW0 (qk w _ g HK); have _ := nl hg (qi HI0); have _ := nr hg (qi HI0); clear HI0 HK HB; rename_i HI0 HK HB BK565 GW565 GE565 NB0_565 NB565_0; clear hb hbox hg) | ((with_reducible refine gate_dst (N := 4) rfl ?_); refine be 4 #[.string (⟨#[]⟩ : ByteArray), .slice none 0 0] 40 ?_; intro gb566 hg w33 hbox hb; have _ := ra (IsS127.below (qi HI0) hb); have _ := bb (bk BK565) hb; have _ := kt (qk _ _ _ HK) hb; have _ := ra (below_step (qb HI0 HB) hb); have _ := ra (hbox); have _ := ns hg (qk w _ g HK); have _ := nt hg HW0 (qk w _ g HK); have _ := bn hg (bk BK565); have _ := bm hg (bk BK565); have _ := nl hg (qi HI0); have _ := nr hg (qi HI0); clear HI0 BK565 HK HB; rename_i HI0 BK565 HK HB BK566 GW566 GE566 NB565_566 NB566_565 NB0_566 NB566_0; clear hb hbox hg; have hnb34 := NB565_566.out; have hnc34 := NB566_565.out; have hnb35 := NB565_0.out; have hnc35 := NB0_565.out; obtain ⟨hcz36_0, hcz36_1, hfz36_0, hfz36_1⟩ := zc2 BK565) | ((with_reducible refine gate_callee (f := 89) rfl ?_); refine gl (some 9) Try.func89 #[.agg #[.string a1_0, .slice A1_1 l1_1.length c1_1]] ?_; (with_reducible refine (spec_l2Copy.calls a1_0 _ _ l1_1 t567 t568 _ ?side1 ?side2 A3.out).mono ?_); (case side1 => exact Kd.C_foot_now HR1_1.out (qk _ _ _ HK)); (case side2 => exact HC1_1.out); rintro e w37 ⟨v569, rfl, ho0, hb⟩; refine ⟨_, rfl, ?_⟩; have _ := ra (Kd.R_lower ho0 (keep_size (w := w) (g := g) (row := none) (qk _ _ _ HK))); have _ := ra (IsS127.below (qi HI0) hb); have _ := bb (bk BK565) hb; have _ := bb (bk BK566) hb; have _ := kt (qk _ _ _ HK) hb; have _ := ra (below_step (qb HI0 HB) hb); clear HI0 BK565 BK566 HK HB; rename_i HO570 HI0 BK565 BK566 HK HB; (try clear hb); (try clear hb2); (try clear hk); (try clear hi); (try clear ho0)) | ((with_reducible refine gate_dst (N := 5) rfl ?_); refine be 5 #[.string (⟨#[]⟩ : ByteArray), .slice none 0 0] 40 ?_; intro gb571 hg w38 hbox hb; have _ := ra (Kd.R_below (rq HO570) hb); have _ := ra (IsS127.below (qi HI0) hb); have _ := bb (bk BK565) hb; have _ := bb (bk BK566) hb; have _ := kt (qk _ _ _ HK) hb; have _ := ra (below_step (qb HI0 HB) hb); have _ := ra (hbox); have _ := ns hg (qk w _ g HK); have _ := nt hg HW0 (qk w _ g HK); have _ := bn hg (bk BK565); have _ := bm hg (bk BK565); have _ := bn hg (bk BK566); have _ := bm hg (bk BK566); have _ := nl hg (qi HI0); have _ := nr hg (qi HI0); clear HO570 HI0 BK565 BK566 HK HB; rename_i HO570 HI0 BK565 BK566 HK HB BK571 GW571 GE571 NB565_571 NB571_565 NB566_571 NB571_566 NB0_571 NB571_0; clear hb hbox hg; have hnb39 := NB571_565.out; have hnc39 := NB565_571.out; have hnb40 := NB571_566.out; have hnc40 := NB566_571.out; have hnb41 := NB571_0.out; have hnc41 := NB0_571.out; obtain ⟨hcz42_0, hcz42_1, hfz42_0, hfz42_1⟩ := zc2 BK571; obtain ⟨Ao43, co43, eo43⟩ := Kd.R_slice HO570.out; subst eo43) | ((with_reducible refine gate_callee (f := 87) rfl ?_); refine gl (some 11) Try.func87 #[.pointer (some ⟨g, 0, none⟩), .int .i64 4] ?_; (with_reducible refine (spec_l1Rd_pick.calls k g s0_0 s0_1 4 t572 t573 w0 _ ?side1 ?side2 A4.out).mono ?_); (case side1 => exact qi HI0); (case side2 => exact qb HI0 HB); rintro e w44 ⟨rfl, hi, hb, hk⟩; refine ⟨_, rfl, ?_⟩; have _ := kv hk (bk BK565) NB565_0; have _ := kv hk (bk BK566) NB566_0; have _ := ra (Kd.R_mono (Kd.R_keep (IsS127.apart (show IsS127 w0 _ g s0_0 s0_1 from qi HI0) (Kd.R_mono (rf (Kd.R_types HO570.out BK571.out (by decide))) (fun _ h_ => h_.1)) (by decide)) hk (fun _ h => h.2)) (fun _ h => h.1)); have _ := ra (KeepBut.blk hk (g' := gb571) (o := .cells #[.string t567, .slice Ao43 t568.length co43] 40 (0, 0)) (bp BK571) NB571_0.out (by simp)); have _ := ku (qk _ _ _ HK) hk; have _ := ra (hb); have _ := ra (hi); clear BK565 BK566 HO570 BK571 HK HB HI0; rename_i BK565 BK566 HO570 BK571 HK HB HI0; (try clear hb); (try clear hb2); (try clear hk); (try clear hi)) | ((with_reducible refine gate_callee (f := 87) rfl ?_); refine gl (some 45) Try.func87 #[.pointer (some ⟨g, 0, none⟩), .int .i64 2] ?_; (with_reducible refine (spec_l1Rd_pick.calls k g s0_0 t573 2 t582 t583 w0 _ ?side1 ?side2 A31.out).mono ?_); (case side1 => exact qi HI0); (case side2 => exact qb HI0 HB); rintro e w45 ⟨rfl, hi, hb, hk⟩; refine ⟨_, rfl, ?_⟩; have _ := kv hk (bk BK565) NB565_0; have _ := kv hk (bk BK566) NB566_0; have _ := ra (Kd.R_mono (Kd.R_keep (IsS127.apart (show IsS127 w0 _ g s0_0 t573 from qi HI0) (rq HO570) (by decide)) hk (fun _ h => h.2)) (fun _ h => h.1)); have _ := kv hk (bk BK571) NB571_0; have _ := ku (qk _ _ _ HK) hk; have _ := ra (hb); have _ := ra (hi); clear BK565 BK566 HO570 BK571 HK HB HI0; rename_i BK565 BK566 HO570 BK571 HK HB HI0; (try clear hb); (try clear hb2); (try clear hk); (try clear hi)))
   go_loopg [] k (fun kq w' => ∃ (x1001_1 : Int) (x572001_1 : List (S95)) (u572001 : Value), Aside0 (spec_l2SpoilTube.l0 kq (wrap64 (40 + t582)) s0_0 x1001_1 t567 x572001_1 = some (r1, r2, r3)) ∧ Aside0 (kq ≤ k) ∧ Aside0 (Kd.R k95 95 w' w.heap.size (fun _ => True) u572001 x572001_1) ∧ Aside0 (w'.heap[gb565]? = some (.cells #[.string a1_0, (.slice A1_1 l1_1.length c1_1)] 40 (0, 0))) ∧ Aside0 (w'.heap[gb566]? = some (.cells #[.string (⟨#[]⟩ : ByteArray), (.slice none 0 0)] 40 (0, 0))) ∧ Aside0 (w'.heap[gb571]? = some (.cells #[.string t567, u572001] 40 (0, 0))) ∧ Aside0 (IsS127 w0 w' g s0_0 x1001_1) ∧ Aside0 (KeepBut w w' g none) ∧ Aside0 (Below w0.heap.size w0 w'))
   case atStart => exact ⟨(t583), (t568), (.slice Ao43 t568.length co43), H', ⟨Nat.le_refl _⟩, ⟨rq HO570⟩, ⟨bk BK565⟩, ⟨bk BK566⟩, ⟨bk BK571⟩, ⟨by exact qi HI0⟩, ⟨by exact qk _ _ _ HK⟩, ⟨by exact qb HI0 HB⟩⟩
   case round =>
    clear H'
    try clear c5
    try clear c5b0
    try clear c5b1
    try clear c30
    try clear c30b0
    try clear c30b1
    try clear hcz13_0
    try clear hcz13_1
    try clear hcz19_0
    try clear hcz19_1
    try clear hcz27_0
    try clear hcz27_1
    try clear hcz29_0
    try clear hcz29_1
    try clear hcz36_0
    try clear hcz36_1
    try clear hcz42_0
    try clear hcz42_1
    try clear hfz13_0
    try clear hfz13_1
    try clear hfz19_0
    try clear hfz19_1
    try clear hfz27_0
    try clear hfz27_1
    try clear hfz29_0
    try clear hfz29_1
    try clear hfz36_0
    try clear hfz36_1
    try clear hfz42_0
    try clear hfz42_1
    obtain ⟨x1001_1, x572001_1, u572001, HA, HK1, HO_572001, BK565, BK566, BK571, HI0, HK, HB⟩ := hrel
    cases gk with
    | zero => exact absurd HA.out (by simp [spec_l2SpoilTube.l0])
    | succ k1 =>
     have H := HA.out
     clear HA
     simp only [spec_l2SpoilTube.l0] at H
     by_cases c46 : (x572001_1.length : Int) < (wrap64 (40 + t582))
     ·rw [if_pos c46] at H
      have c46b0 : decide ((x572001_1.length : Int) < (wrap64 (40 + t582))) = true := decide_eq_true c46
      clear c46
      obtain ⟨⟨t584, t585, t586, t587, t588, t589, t590⟩, A47, H⟩ := bo H
      try dsimp only at H
      by_cases c48 : x572001_1.length < 2932031007402
      ·rw [if_pos c48] at H
       have LMc48 := Aside0.mk c48
       clear c48
       obtain ⟨y591, hy_⟩ : ∃ y_ : List (S95), y_ = (x572001_1 ++ [(⟨t584, t585, t586, t587, t588, t589⟩ : S95)]) := ⟨_, rfl⟩
       replace H : (spec_l2SpoilTube.l0 k1 (wrap64 (40 + t582)) s0_0 t590 t567 y591) = some (r1, r2, r3) := yh
       have Ny591 := ra hy_
       clear hy_
       have H' := Aside0.mk H
       clear H
       have hnb49 := NB571_565.out
       have hnc49 := NB565_571.out
       have hnb50 := NB571_566.out
       have hnc50 := NB566_571.out
       have hnb51 := NB571_0.out
       have hnc51 := NB0_571.out
       obtain ⟨hcz52_0, hcz52_1, hfz52_0, hfz52_1⟩ := zc2 BK571
       obtain ⟨Ao53, co53, eo53⟩ := Kd.R_slice HO_572001.out
       subst eo53
       try go_wp2
       have _ := ra (Kd.R_drew HO_572001.out)
       have _ := ra (blk_drew BK565.out)
       have _ := ra (blk_drew BK566.out)
       have _ := ra (blk_drew BK571.out)
       have _ := ra (IsS127.drew HI0.out)
       have _ := ra (keep_drew HK.out)
       have _ := ra (below_drew1 HB.out)
       clear HO_572001 BK565 BK566 BK571 HI0 HK HB
       rename_i HO_572001 BK565 BK566 BK571 HI0 HK HB
       refine start_ (n := 8) (S := fun w' => w'.cell? ⟨gb571, 0, none⟩ = some (.string t567) ∧ w'.cell? ⟨gb571, 1, none⟩ = some (.slice Ao53 x572001_1.length co53)) (ds := [7]) #[false, false, false, false, false, false, false, false] (by kernel_rfl) rfl rfl ⟨(blk_cell BK571.out 0).trans rfl, (blk_cell BK571.out 1).trans rfl⟩ (fun hHeld => ?_); refine with_tabW spec_l2SpoilTube.tab11 spec_l2SpoilTube.bits11 (fun HT_ HW_ => ?_)
       generalize wr.drew = w54 at HO_572001 BK565 BK566 BK571 HI0 HK HB hHeld ⊢
       refine pu 0 52 (bl 8 1) ?_
       refine pu 2 54 (bl 8 5) ?_
       refine tk 1 53 (bl 8 7) ?_ hHeld
       refine oe 3 55 (bl 8 15) (fun K hK => ?_)
       refine gs Try.func110 #[.pointer (some ⟨g, 0, none⟩)] ?_
       with_reducible refine (spec_l1DrawBox.calls k1 g s0_0 x1001_1 t584 t585 t586 t587 t588 t589 t590 w0 _ ?side1 ?side2 A47.out).mono ?_
       (case side1 => exact qi HI0)
       (case side2 => exact qb HI0 HB)
       rintro e w55 ⟨rfl, hi, hb, hk⟩
       refine ⟨_, rfl, ?_⟩
       have _ := ra (Kd.R_mono (Kd.R_keep (IsS127.apart (show IsS127 w0 _ g s0_0 x1001_1 from qi HI0) (rq HO_572001) (by decide)) hk (fun _ h => h.2)) (fun _ h => h.1))
       have _ := kv hk (bk BK565) NB565_0
       have _ := kv hk (bk BK566) NB566_0
       have _ := kv hk (bk BK571) NB571_0
       have _ := ku (qk _ _ _ HK) hk
       have _ := ra (hb)
       have _ := ra (hi)
       clear HO_572001 BK565 BK566 BK571 HK HB HI0
       rename_i HO_572001 BK565 BK566 BK571 HK HB HI0
       (try clear hb)
       (try clear hb2)
       (try clear hk)
       (try clear hi)
       refine hK.out _ _ ⟨(blk_cell BK571.out 0).trans rfl, (blk_cell BK571.out 1).trans rfl⟩ (fun hHeld => ?_)
       clear hK K
       refine nm 55 ?_
       refine oe 4 56 (bl 8 31) (fun K hK => ?_)
       refine value_ (w1 := ?_) (v := ?_) (by rfl) rfl ?_ ?_
       rotate_left 2
       ·go_simp
        constructor
        ·rfl
        ·rfl
       refine hK.out _ _ ⟨(blk_cell (blk_alloc BK571.out _) 0).trans rfl, (blk_cell (blk_alloc BK571.out _) 1).trans rfl⟩ (fun hHeld => ?_)
       clear hK K
       refine nm 56 ?_
       refine oe 5 57 (bl 8 63) (fun K hK => ?_)
       refine Kd.R_append_step k95 w.heap.size (by rfl) (.tmp 53) (.tmp 56) 38 95 (.agg #[(.int .i64 0), (.int .i64 0), (.int .i64 0), (.int .i64 0), (.int .i64 0), (.int .i64 0)]) 48 rfl Try.underlying38 info95 rfl (by decide) (by omega) (.slice Ao53 x572001_1.length co53) x572001_1 (⟨t584, t585, t586, t587, t588, t589⟩ : S95) [.int .i64 t584, .int .i64 t585, .int .i64 t586, .int .i64 t587, .int .i64 t588, .int .i64 t589] (fun _ => True) (fun _ => False) rfl rfl ?aP (fun _ hk => hk.elim) ?aF ?aO (Below.refl _ _) ?aS ?aL ?_
       (case aP => exact k95_mkM _ _ _ (⟨t584, t585, t586, t587, t588, t589⟩ : S95))
       (case aF => exact (fun _ _ => trivial))
       (case aO => exact (rq HO_572001))
       (case aS => exact (keep_size (w := w) (g := g) (row := none) (qk _ _ _ HK)))
       (case aL => have := LMc48.out; omega)
       intro v592 w56 ho hb hg hat
       rw [← Ny591.out] at ho
       have _ := ra (blk_grown (g := gb565) (o := .cells #[.string a1_0, .slice A1_1 l1_1.length c1_1] 40 (0, 0)) (bk BK565) hg (Kd.R_ne HO_572001.out BK565.out (by decide)))
       have _ := ra (blk_grown (g := gb566) (o := .cells #[.string (⟨#[]⟩ : ByteArray), .slice none 0 0] 40 (0, 0)) (bk BK566) hg (Kd.R_ne HO_572001.out BK566.out (by decide)))
       have _ := ra (blk_grown (g := gb571) (o := .cells #[.string t567, .slice Ao53 x572001_1.length co53] 40 (0, 0)) (bk BK571) hg (Kd.R_ne HO_572001.out BK571.out (by decide)))
       have _ := ra (IsS127.grown (qi HI0) hg (IsS127.own_ne HI0.out HO_572001.out (by decide)))
       have _ := ra (below_weaken (qb HI0 HB) HL.out hb)
       have _ := ra (KeepBut.trans (qk _ _ _ HK) (KeepBut.of_grown hg g) (Kd.R_base2 HO_572001.out))
       have _ := ra (ho)
       clear BK565 BK566 BK571 HI0 HB HK HO_572001
       rename_i BK565 BK566 BK571 HI0 HB HK HO593
       clear ho hb hg hat
       obtain ⟨Ao57, co57, eo57⟩ := Kd.R_slice HO593.out
       (first | subst eo57 | (injection eo57 with f1_ f2_ f3_; have f4_ := f1_.symm; have f5_ := f3_.symm; clear f1_ f2_ f3_; subst f4_; subst f5_))
       refine hK.out _ _ ⟨(blk_cell BK571.out 0).trans rfl, (blk_cell BK571.out 1).trans rfl⟩ (fun hHeld => ?_)
       clear hK K
       refine nm 57 ?_
       refine pu 6 58 (bl 8 127) ?_
       refine last_ (i := 7) (N := none) #[true, true, true, true, true, true, true, true] rfl rfl (one_of HT_.out (by kernel_rfl)) (by decide) (fun K hK => ?_)
       have hs58 : w56.cell? ⟨gb571, 1, none⟩ = some (.slice Ao53 x572001_1.length co53) := (blk_cell BK571.out 1).trans rfl
       have hfs58 := blk_frozen BK571.out 1
       have hns58_0 := NB565_571.out
       have hns58_1 := NB566_571.out
       have hms58_0 := NB571_565.out
       have hms58_1 := NB571_566.out
       refine skip_ (w1 := ?_) (by rfl) rfl ?_ ?_
       rotate_left
       ·go_simp
        rfl
       refine hK.out _ _ ?_
       clear hK K
       refine done_ (done_of HT_.out (by kernel_rfl)) ?_
       try go_wp2
       go_roundg k1
       case measure => have := HK1.out; omega
       case rel => exact ⟨(t590), (y591), (.slice Ao57 y591.length co57), H', ⟨by have := HK1.out; omega⟩, ⟨by (with_reducible repeat (first | apply Kd.R_alloc | apply Kd.R_drewN | apply Kd.R_drew)); exact Kd.R_mono (rf (Kd.R_types HO593.out BK571.out (by decide))) (fun _ hk => trivial)⟩, ⟨bk BK565⟩, ⟨bk BK566⟩, ⟨bp BK571⟩, ⟨by exact qi HI0⟩, ⟨by exact qk _ _ _ HK⟩, ⟨by exact qb HI0 HB⟩⟩
      ·rw [if_neg c48] at H
       exact absurd H (by simp)
     ·rw [if_neg c46] at H
      have c46b0 : decide ((x572001_1.length : Int) < (wrap64 (40 + t582))) = false := decide_eq_false c46
      clear c46
      simp only [Option.some.injEq, Prod.mk.injEq] at H
      obtain ⟨rfl, rfl, rfl⟩ := H
      have hnb59 := NB571_565.out
      have hnc59 := NB565_571.out
      have hnb60 := NB571_566.out
      have hnc60 := NB566_571.out
      have hnb61 := NB571_0.out
      have hnc61 := NB0_571.out
      obtain ⟨hcz62_0, hcz62_1, hfz62_0, hfz62_1⟩ := zc2 BK571
      obtain ⟨Ao63, co63, eo63⟩ := Kd.R_slice HO_572001.out
      subst eo63
      have hnb64 := NB566_565.out
      have hnc64 := NB565_566.out
      have hnb65 := NB566_0.out
      have hnc65 := NB0_566.out
      obtain ⟨hcz66_0, hcz66_1, hfz66_0, hfz66_1⟩ := zc2 BK566
      go_wp2
      refine bodyPost_ret (results_cell_row rfl _ _ gb566 40 #[.string t567, .slice Ao63 x572001_1.length co63] (0, 0) _ rfl (bp BK566) Try.underlying40 rfl (by kernel_rfl)) rfl ?_
      exact ⟨_, re, by (with_reducible repeat (first | apply Kd.R_alloc | apply Kd.R_drewN | apply Kd.R_drew)); exact Kd.R_mono (rf (Kd.R_types HO_572001.out BK566.out (by decide))) (fun _ hk => trivial), by exact qi HI0, by exact qb HI0 HB, by exact qk _ _ _ HK⟩
  ·rw [if_neg c30] at H
   have c30b0 : (t572 == 1) = false := beq_eq_false_iff_ne.mpr c30
   have c30b1 : (t572 != 1) = true := bne_iff_ne.mpr c30
   by_cases c67 : (t568.length : Int) > 0
   ·rw [if_pos c67] at H
    have c67b0 : decide (0 < (t568.length : Int)) = true := decide_eq_true c67
    have c67b1 : decide (0 < t568.length) = true := decide_eq_true (by omega)
    clear c67
    obtain ⟨⟨t594, t595⟩, A68, H⟩ := bo H
    try dsimp only at H
    by_cases c69 : 0 ≤ t594
    ·rw [if_pos c69] at H
     have c69b0 : decide (0 ≤ t594) = true := decide_eq_true c69
     clear c69
     by_cases c70 : t594 < (t568.length : Int)
     ·rw [if_pos c70] at H
      have c70b0 : decide (t594 < (t568.length : Int)) = true := decide_eq_true c70
      clear c70
      obtain ⟨⟨t597, t598, t599, t600, t601, t602, t603⟩, A71, H⟩ := bo H
      try dsimp only at H
      obtain ⟨y604, hy_⟩ : ∃ y_ : List (S95), y_ = (t568.set (t594 : Int).toNat (⟨t597, t598, t599, t600, t601, t602⟩ : S95)) := ⟨_, rfl⟩
      replace H : (some (t567, y604, t603)) = some (r1, r2, r3) := yh
      have Ny604 := ra hy_
      clear hy_
      simp only [Option.some.injEq, Prod.mk.injEq] at H
      obtain ⟨rfl, rfl, rfl⟩ := H
      go_enter Try.func88, Try.ntmps88
      try go_wp2_with (first | ((with_reducible refine gate_dst (N := 3) rfl ?_); refine be 3 #[.string a1_0, .slice A1_1 l1_1.length c1_1] 40 ?_; intro gb565 hg w73 hbox hb; have _ := ra (IsS127.below (qi HI0) hb); have _ := kt (qk _ _ _ HK) hb; have _ := ra (below_step (qb HI0 HB) hb); have _ := ra (hbox); have _ := ns hg (qk w _ g HK); have _ := nt hg HW0 (qk w _ g HK); have _ := nl hg (qi HI0); have _ := nr hg (qi HI0); clear HI0 HK HB; rename_i HI0 HK HB BK565 GW565 GE565 NB0_565 NB565_0; clear hb hbox hg) | ((with_reducible refine gate_dst (N := 4) rfl ?_); refine be 4 #[.string (⟨#[]⟩ : ByteArray), .slice none 0 0] 40 ?_; intro gb566 hg w74 hbox hb; have _ := ra (IsS127.below (qi HI0) hb); have _ := bb (bk BK565) hb; have _ := kt (qk _ _ _ HK) hb; have _ := ra (below_step (qb HI0 HB) hb); have _ := ra (hbox); have _ := ns hg (qk w _ g HK); have _ := nt hg HW0 (qk w _ g HK); have _ := bn hg (bk BK565); have _ := bm hg (bk BK565); have _ := nl hg (qi HI0); have _ := nr hg (qi HI0); clear HI0 BK565 HK HB; rename_i HI0 BK565 HK HB BK566 GW566 GE566 NB565_566 NB566_565 NB0_566 NB566_0; clear hb hbox hg; have hnb75 := NB565_566.out; have hnc75 := NB566_565.out; have hnb76 := NB565_0.out; have hnc76 := NB0_565.out; obtain ⟨hcz77_0, hcz77_1, hfz77_0, hfz77_1⟩ := zc2 BK565) | ((with_reducible refine gate_callee (f := 89) rfl ?_); refine gl (some 9) Try.func89 #[.agg #[.string a1_0, .slice A1_1 l1_1.length c1_1]] ?_; (with_reducible refine (spec_l2Copy.calls a1_0 _ _ l1_1 t567 t568 _ ?side1 ?side2 A3.out).mono ?_); (case side1 => exact Kd.C_foot_now HR1_1.out (qk _ _ _ HK)); (case side2 => exact HC1_1.out); rintro e w78 ⟨v569, rfl, ho0, hb⟩; refine ⟨_, rfl, ?_⟩; have _ := ra (Kd.R_lower ho0 (keep_size (w := w) (g := g) (row := none) (qk _ _ _ HK))); have _ := ra (IsS127.below (qi HI0) hb); have _ := bb (bk BK565) hb; have _ := bb (bk BK566) hb; have _ := kt (qk _ _ _ HK) hb; have _ := ra (below_step (qb HI0 HB) hb); clear HI0 BK565 BK566 HK HB; rename_i HO570 HI0 BK565 BK566 HK HB; (try clear hb); (try clear hb2); (try clear hk); (try clear hi); (try clear ho0)) | ((with_reducible refine gate_dst (N := 5) rfl ?_); refine be 5 #[.string (⟨#[]⟩ : ByteArray), .slice none 0 0] 40 ?_; intro gb571 hg w79 hbox hb; have _ := ra (Kd.R_below (rq HO570) hb); have _ := ra (IsS127.below (qi HI0) hb); have _ := bb (bk BK565) hb; have _ := bb (bk BK566) hb; have _ := kt (qk _ _ _ HK) hb; have _ := ra (below_step (qb HI0 HB) hb); have _ := ra (hbox); have _ := ns hg (qk w _ g HK); have _ := nt hg HW0 (qk w _ g HK); have _ := bn hg (bk BK565); have _ := bm hg (bk BK565); have _ := bn hg (bk BK566); have _ := bm hg (bk BK566); have _ := nl hg (qi HI0); have _ := nr hg (qi HI0); clear HO570 HI0 BK565 BK566 HK HB; rename_i HO570 HI0 BK565 BK566 HK HB BK571 GW571 GE571 NB565_571 NB571_565 NB566_571 NB571_566 NB0_571 NB571_0; clear hb hbox hg; have hnb80 := NB571_565.out; have hnc80 := NB565_571.out; have hnb81 := NB571_566.out; have hnc81 := NB566_571.out; have hnb82 := NB571_0.out; have hnc82 := NB0_571.out; obtain ⟨hcz83_0, hcz83_1, hfz83_0, hfz83_1⟩ := zc2 BK571; obtain ⟨Ao84, co84, eo84⟩ := Kd.R_slice HO570.out; subst eo84) | ((with_reducible refine gate_callee (f := 87) rfl ?_); refine gl (some 11) Try.func87 #[.pointer (some ⟨g, 0, none⟩), .int .i64 4] ?_; (with_reducible refine (spec_l1Rd_pick.calls k g s0_0 s0_1 4 t572 t573 w0 _ ?side1 ?side2 A4.out).mono ?_); (case side1 => exact qi HI0); (case side2 => exact qb HI0 HB); rintro e w85 ⟨rfl, hi, hb, hk⟩; refine ⟨_, rfl, ?_⟩; have _ := kv hk (bk BK565) NB565_0; have _ := kv hk (bk BK566) NB566_0; have _ := ra (Kd.R_mono (Kd.R_keep (IsS127.apart (show IsS127 w0 _ g s0_0 s0_1 from qi HI0) (Kd.R_mono (rf (Kd.R_types HO570.out BK571.out (by decide))) (fun _ h_ => h_.1)) (by decide)) hk (fun _ h => h.2)) (fun _ h => h.1)); have _ := ra (KeepBut.blk hk (g' := gb571) (o := .cells #[.string t567, .slice Ao84 t568.length co84] 40 (0, 0)) (bp BK571) NB571_0.out (by simp)); have _ := ku (qk _ _ _ HK) hk; have _ := ra (hb); have _ := ra (hi); clear BK565 BK566 HO570 BK571 HK HB HI0; rename_i BK565 BK566 HO570 BK571 HK HB HI0; (try clear hb); (try clear hb2); (try clear hk); (try clear hi); obtain ⟨hcz86_0, hcz86_1, hfz86_0, hfz86_1⟩ := zc2 BK571) | ((with_reducible refine gate_callee (f := 87) rfl ?_); refine gl (some 20) Try.func87 #[.pointer (some ⟨g, 0, none⟩), .int .i64 (t568.length : Int)] ?_; (with_reducible refine (spec_l1Rd_pick.calls k g s0_0 t573 (t568.length : Int) t594 t595 w0 _ ?side1 ?side2 A68.out).mono ?_); (case side1 => exact qi HI0); (case side2 => exact qb HI0 HB); rintro e w87 ⟨rfl, hi, hb, hk⟩; refine ⟨_, rfl, ?_⟩; have _ := kv hk (bk BK565) NB565_0; have _ := kv hk (bk BK566) NB566_0; have _ := ra (Kd.R_mono (Kd.R_keep (IsS127.apart (show IsS127 w0 _ g s0_0 t573 from qi HI0) (rq HO570) (by decide)) hk (fun _ h => h.2)) (fun _ h => h.1)); have _ := kv hk (bk BK571) NB571_0; have _ := ku (qk _ _ _ HK) hk; have _ := ra (hb); have _ := ra (hi); clear BK565 BK566 HO570 BK571 HK HB HI0; rename_i BK565 BK566 HO570 BK571 HK HB HI0; (try clear hb); (try clear hb2); (try clear hk); (try clear hi)))
      have _ := ra (Kd.R_drew HO570.out)
      have _ := ra (blk_drew BK565.out)
      have _ := ra (blk_drew BK566.out)
      have _ := ra (blk_drew BK571.out)
      have _ := ra (IsS127.drew HI0.out)
      have _ := ra (keep_drew HK.out)
      have _ := ra (below_drew1 HB.out)
      clear HO570 BK565 BK566 BK571 HI0 HK HB
      rename_i HO570 BK565 BK566 BK571 HI0 HK HB
      have p596 : 0 ≤ (t594 : Int) := od
      have q596 : t594 < (t568.length : Int) := od
      obtain ⟨ad596, e596, hx596_0, hx596_1, hx596_2, hx596_3, hx596_4, hx596_5⟩ := at_T95 (Kd.R_reads' HO570.out).2.2 t594 p596 q596
      cases e596
      replace p596 := eq_true p596
      replace q596 := eq_true q596
      refine start_ (n := 12) (S := fun w' => w'.cell? ⟨gb571, 0, none⟩ = some (.string t567) ∧ w'.cell? ⟨gb571, 1, none⟩ = some (.slice (some ad596) t568.length co84) ∧ w'.cell? (ad596.add ((t594).toNat * 6)) = some (.int .i64 ((rd_T95 t568 t594).f0)) ∧ w'.cell? ⟨(ad596.add ((t594).toNat * 6)).block, (ad596.add ((t594).toNat * 6)).off + 1, none⟩ = some (.int .i64 ((rd_T95 t568 t594).f1)) ∧ w'.cell? ⟨(ad596.add ((t594).toNat * 6)).block, (ad596.add ((t594).toNat * 6)).off + 2, none⟩ = some (.int .i64 ((rd_T95 t568 t594).f2)) ∧ w'.cell? ⟨(ad596.add ((t594).toNat * 6)).block, (ad596.add ((t594).toNat * 6)).off + 3, none⟩ = some (.int .i64 ((rd_T95 t568 t594).f3)) ∧ w'.cell? ⟨(ad596.add ((t594).toNat * 6)).block, (ad596.add ((t594).toNat * 6)).off + 4, none⟩ = some (.int .i64 ((rd_T95 t568 t594).f4)) ∧ w'.cell? ⟨(ad596.add ((t594).toNat * 6)).block, (ad596.add ((t594).toNat * 6)).off + 5, none⟩ = some (.int .i64 ((rd_T95 t568 t594).f5))) (ds := [11]) #[false, false, false, false, false, false, false, false, false, false, false, false] (by kernel_rfl) rfl rfl ⟨(blk_cell BK571.out 0).trans rfl, (blk_cell BK571.out 1).trans rfl, hx596_0, hx596_1, hx596_2, hx596_3, hx596_4, hx596_5⟩ (fun hHeld => ?_); refine with_tabW spec_l2SpoilTube.tab5 spec_l2SpoilTube.bits5 (fun HT_ HW_ => ?_)
      generalize w87.drew = w88 at HO570 BK565 BK566 BK571 HI0 HK HB hx596_0 hx596_1 hx596_2 hx596_3 hx596_4 hx596_5 hHeld ⊢
      refine pu 0 21 (bl 12 1) ?_
      refine pu 2 23 (bl 12 5) ?_
      refine pu 3 24 (bl 12 13) ?_
      refine pu 4 25 (bl 12 29) ?_
      refine pu 6 27 (bl 12 93) ?_
      refine tk 1 22 (bl 12 95) ?_ hHeld
      refine tk 5 26 (bl 12 127) ?_ hHeld
      refine pu 7 28 (bl 12 255) ?_
      refine tk 8 29 (bl 12 511) ?_ hHeld
      refine oe 9 30 (bl 12 1023) (fun K hK => ?_)
      refine gs Try.func111 #[.pointer (some ⟨g, 0, none⟩), .agg #[.int .i64 ((rd_T95 t568 t594).f0), .int .i64 ((rd_T95 t568 t594).f1), .int .i64 ((rd_T95 t568 t594).f2), .int .i64 ((rd_T95 t568 t594).f3), .int .i64 ((rd_T95 t568 t594).f4), .int .i64 ((rd_T95 t568 t594).f5)]] ?_
      with_reducible refine (spec_l1SpoilBox.calls k g s0_0 t595 ((rd_T95 t568 t594).f0) ((rd_T95 t568 t594).f1) ((rd_T95 t568 t594).f2) ((rd_T95 t568 t594).f3) ((rd_T95 t568 t594).f4) ((rd_T95 t568 t594).f5) t597 t598 t599 t600 t601 t602 t603 w0 _ ?side1 ?side2 A71.out).mono ?_
      (case side1 => exact qi HI0)
      (case side2 => exact qb HI0 HB)
      rintro e w89 ⟨rfl, hi, hb, hk⟩
      have HS2_ := keep_cell hk (hHeld.2.2.1) (by first | (rw [add_block]; exact Kd.own_blk (IsS127.own_ne HI0.out HO570.out (by decide))) | (show (Addr.add _ _).block ≠ _; rw [add_block]; exact Kd.own_blk (IsS127.own_ne HI0.out HO570.out (by decide))) | exact Kd.own_blk (IsS127.own_ne HI0.out HO570.out (by decide)))
      have HS3_ := keep_cell hk (hHeld.2.2.2.1) (by first | (rw [add_block]; exact Kd.own_blk (IsS127.own_ne HI0.out HO570.out (by decide))) | (show (Addr.add _ _).block ≠ _; rw [add_block]; exact Kd.own_blk (IsS127.own_ne HI0.out HO570.out (by decide))) | exact Kd.own_blk (IsS127.own_ne HI0.out HO570.out (by decide)))
      have HS4_ := keep_cell hk (hHeld.2.2.2.2.1) (by first | (rw [add_block]; exact Kd.own_blk (IsS127.own_ne HI0.out HO570.out (by decide))) | (show (Addr.add _ _).block ≠ _; rw [add_block]; exact Kd.own_blk (IsS127.own_ne HI0.out HO570.out (by decide))) | exact Kd.own_blk (IsS127.own_ne HI0.out HO570.out (by decide)))
      have HS5_ := keep_cell hk (hHeld.2.2.2.2.2.1) (by first | (rw [add_block]; exact Kd.own_blk (IsS127.own_ne HI0.out HO570.out (by decide))) | (show (Addr.add _ _).block ≠ _; rw [add_block]; exact Kd.own_blk (IsS127.own_ne HI0.out HO570.out (by decide))) | exact Kd.own_blk (IsS127.own_ne HI0.out HO570.out (by decide)))
      have HS6_ := keep_cell hk (hHeld.2.2.2.2.2.2.1) (by first | (rw [add_block]; exact Kd.own_blk (IsS127.own_ne HI0.out HO570.out (by decide))) | (show (Addr.add _ _).block ≠ _; rw [add_block]; exact Kd.own_blk (IsS127.own_ne HI0.out HO570.out (by decide))) | exact Kd.own_blk (IsS127.own_ne HI0.out HO570.out (by decide)))
      have HS7_ := keep_cell hk (hHeld.2.2.2.2.2.2.2) (by first | (rw [add_block]; exact Kd.own_blk (IsS127.own_ne HI0.out HO570.out (by decide))) | (show (Addr.add _ _).block ≠ _; rw [add_block]; exact Kd.own_blk (IsS127.own_ne HI0.out HO570.out (by decide))) | exact Kd.own_blk (IsS127.own_ne HI0.out HO570.out (by decide)))
      refine ⟨_, rfl, ?_⟩
      have _ := kv hk (bk BK565) NB565_0
      have _ := kv hk (bk BK566) NB566_0
      have _ := ra (Kd.R_mono (Kd.R_keep (IsS127.apart (show IsS127 w0 _ g s0_0 t595 from qi HI0) (rq HO570) (by decide)) hk (fun _ h => h.2)) (fun _ h => h.1))
      have _ := kv hk (bk BK571) NB571_0
      have _ := ku (qk _ _ _ HK) hk
      have _ := ra (hb)
      have _ := ra (hi)
      clear BK565 BK566 HO570 BK571 HK HB HI0
      rename_i BK565 BK566 HO570 BK571 HK HB HI0
      (try clear hb)
      (try clear hb2)
      (try clear hk)
      (try clear hi)
      have p72 : 0 ≤ (t594 : Int) := od
      have q72 : (t594 : Int) < ((t568.length : Int) : Int) := od
      obtain ⟨go72, co72, eo72, gb72, gl72, cl72, HG72⟩ := Kd.R_form HO570.out (by omega)
      (first | cases eo72 | (injection eo72 with ea_ en_ ec_; (first | subst ea_ | (injection ea_ with ea_; subst ea_)); subst ec_; clear en_))
      have GB72 := Aside0.mk gb72
      have GG72 := Aside0.mk HG72
      clear gb72 gl72 HG72
      (first | simp only [add_plain] at hx596_0 | skip)
      (first | simp only [add_plain] at hx596_1 | skip)
      (first | simp only [add_plain] at hx596_2 | skip)
      (first | simp only [add_plain] at hx596_3 | skip)
      (first | simp only [add_plain] at hx596_4 | skip)
      (first | simp only [add_plain] at hx596_5 | skip)
      obtain ⟨ce72, hcl72, hM72, hcc72, hfr72⟩ := Kd.R_elem HO570.out z95 (t594 : Int) p72 q72
      obtain rfl := k95_openM hM72
      have hx72_0 : World.cell? _ ⟨go72, (t594 : Int).toNat * 6, none⟩ = some (.int .i64 ((rd_T95 t568 t594).f0)) := hcc72 0 _ rfl
      have hx72_1 : World.cell? _ ⟨go72, (t594 : Int).toNat * 6 + 1, none⟩ = some (.int .i64 ((rd_T95 t568 t594).f1)) := hcc72 1 _ rfl
      have hx72_2 : World.cell? _ ⟨go72, (t594 : Int).toNat * 6 + 2, none⟩ = some (.int .i64 ((rd_T95 t568 t594).f2)) := hcc72 2 _ rfl
      have hx72_3 : World.cell? _ ⟨go72, (t594 : Int).toNat * 6 + 3, none⟩ = some (.int .i64 ((rd_T95 t568 t594).f3)) := hcc72 3 _ rfl
      have hx72_4 : World.cell? _ ⟨go72, (t594 : Int).toNat * 6 + 4, none⟩ = some (.int .i64 ((rd_T95 t568 t594).f4)) := hcc72 4 _ rfl
      have hx72_5 : World.cell? _ ⟨go72, (t594 : Int).toNat * 6 + 5, none⟩ = some (.int .i64 ((rd_T95 t568 t594).f5)) := hcc72 5 _ rfl
      have hf72_0 : World.frozen? _ ⟨go72, (t594 : Int).toNat * 6, none⟩ = false := hfr72 0
      have hf72_1 : World.frozen? _ ⟨go72, (t594 : Int).toNat * 6 + 1, none⟩ = false := hfr72 1
      have hf72_2 : World.frozen? _ ⟨go72, (t594 : Int).toNat * 6 + 2, none⟩ = false := hfr72 2
      have hf72_3 : World.frozen? _ ⟨go72, (t594 : Int).toNat * 6 + 3, none⟩ = false := hfr72 3
      have hf72_4 : World.frozen? _ ⟨go72, (t594 : Int).toNat * 6 + 4, none⟩ = false := hfr72 4
      have hf72_5 : World.frozen? _ ⟨go72, (t594 : Int).toNat * 6 + 5, none⟩ = false := hfr72 5
      clear hcl72 hcc72 hfr72 hM72
      replace p72 := eq_true p72
      replace q72 := eq_true q72
      have HN0_go72 := ra (show g ≠ go72 from by have h_ := IsS127.own_ne HI0.out HO570.out (by decide); intro e_; exact h_ (by rw [e_]; rfl))
      obtain ⟨ce90, hcl90, hM90, hcc90, hfr90⟩ := Kd.R_elem HO570.out z95 (t594 : Int) (od) (by have h_ : (t594 : Int) < ((t568.length : Int) : Int) := od; first | exact h_ | (have e_ := (Kd.R_reads' HO570.out).1; omega) | simpa using h_)
      obtain rfl := k95_openM hM90
      have HP90 := (Kd.R_seg HO570.out (t594 : Int) (od) (by have h_ : (t594 : Int) < ((t568.length : Int) : Int) := od; first | exact h_ | (have e_ := (Kd.R_reads' HO570.out).1; omega) | simpa using h_) (seg := [.int .i64 t597, .int .i64 t598, .int .i64 t599, .int .i64 t600, .int .i64 t601, .int .i64 t602]) (j := 0) hcl90 hcc90 (show 6 ≤ 6 from by decide) (x' := (⟨t597, t598, t599, t600, t601, t602⟩ : S95)) (k95_mkM _ _ _ (⟨t597, t598, t599, t600, t601, t602⟩ : S95) ) (fun _ hk => hk)).1
      rw [← Ny604.out] at HP90
      have HQ90 := Aside0.mk HP90
      clear hcl90 hcc90 hfr90 hM90 HP90
      refine hK.out _ _ ⟨(blk_cell BK571.out 0).trans rfl, (blk_cell BK571.out 1).trans rfl, HS2_, HS3_, HS4_, HS5_, HS6_, HS7_⟩ (fun hHeld => ?_)
      clear hK K
      refine nm 30 ?_
      refine pu 10 31 (bl 12 2047) ?_
      refine last_ (i := 11) (N := none) #[true, true, true, true, true, true, true, true, true, true, true, true] rfl rfl (one_of HT_.out (by kernel_rfl)) (by decide) (fun K hK => ?_)
      refine skip_ (w1 := ?_) (by rfl) rfl ?_ ?_
      rotate_left
      ·go_simp
       rfl
      refine hK.out _ _ ?_
      clear hK K
      refine done_ (done_of HT_.out (by kernel_rfl)) ?_
      have n0 : Aside0 (Kd.R k95 95 ((((((w89.setCell ⟨go72, (t594 : Int).toNat * 6, none⟩ (.int .i64 t597)).setCell ⟨go72, (t594 : Int).toNat * 6 + 1, none⟩ (.int .i64 t598)).setCell ⟨go72, (t594 : Int).toNat * 6 + 2, none⟩ (.int .i64 t599)).setCell ⟨go72, (t594 : Int).toNat * 6 + 3, none⟩ (.int .i64 t600)).setCell ⟨go72, (t594 : Int).toNat * 6 + 4, none⟩ (.int .i64 t601)).setCell ⟨go72, (t594 : Int).toNat * 6 + 5, none⟩ (.int .i64 t602)) w.heap.size (fun _ => True) (.slice (some ⟨go72, 0, none⟩) t568.length co84) y604) := ⟨by (with_reducible repeat (first | apply Kd.R_alloc | apply Kd.R_drewN | apply Kd.R_drew)); exact HQ90.out⟩
      have n1 : Aside0 (((((((w89.setCell ⟨go72, (t594 : Int).toNat * 6, none⟩ (.int .i64 t597)).setCell ⟨go72, (t594 : Int).toNat * 6 + 1, none⟩ (.int .i64 t598)).setCell ⟨go72, (t594 : Int).toNat * 6 + 2, none⟩ (.int .i64 t599)).setCell ⟨go72, (t594 : Int).toNat * 6 + 3, none⟩ (.int .i64 t600)).setCell ⟨go72, (t594 : Int).toNat * 6 + 4, none⟩ (.int .i64 t601)).setCell ⟨go72, (t594 : Int).toNat * 6 + 5, none⟩ (.int .i64 t602)).heap[gb565]? = some (.cells #[.string a1_0, .slice A1_1 l1_1.length c1_1] 40 (0, 0))) := ⟨by (with_reducible repeat (first | refine blk_drewN ?_ _ | refine blk_drew ?_ | refine blk_alloc ?_ _)); refine blk_far ?_ (by have h_ := Kd.R_ne HO570.out BK565.out (by decide); intro e_; exact h_ (by rw [e_]; rfl)) _; (with_reducible repeat (first | refine blk_drewN ?_ _ | refine blk_drew ?_ | refine blk_alloc ?_ _)); refine blk_far ?_ (by have h_ := Kd.R_ne HO570.out BK565.out (by decide); intro e_; exact h_ (by rw [e_]; rfl)) _; (with_reducible repeat (first | refine blk_drewN ?_ _ | refine blk_drew ?_ | refine blk_alloc ?_ _)); refine blk_far ?_ (by have h_ := Kd.R_ne HO570.out BK565.out (by decide); intro e_; exact h_ (by rw [e_]; rfl)) _; (with_reducible repeat (first | refine blk_drewN ?_ _ | refine blk_drew ?_ | refine blk_alloc ?_ _)); refine blk_far ?_ (by have h_ := Kd.R_ne HO570.out BK565.out (by decide); intro e_; exact h_ (by rw [e_]; rfl)) _; (with_reducible repeat (first | refine blk_drewN ?_ _ | refine blk_drew ?_ | refine blk_alloc ?_ _)); refine blk_far ?_ (by have h_ := Kd.R_ne HO570.out BK565.out (by decide); intro e_; exact h_ (by rw [e_]; rfl)) _; (with_reducible repeat (first | refine blk_drewN ?_ _ | refine blk_drew ?_ | refine blk_alloc ?_ _)); refine blk_far ?_ (by have h_ := Kd.R_ne HO570.out BK565.out (by decide); intro e_; exact h_ (by rw [e_]; rfl)) _; (with_reducible repeat (first | refine blk_drewN ?_ _ | refine blk_drew ?_ | refine blk_alloc ?_ _)); exact BK565.out⟩
      have n2 : Aside0 (((((((w89.setCell ⟨go72, (t594 : Int).toNat * 6, none⟩ (.int .i64 t597)).setCell ⟨go72, (t594 : Int).toNat * 6 + 1, none⟩ (.int .i64 t598)).setCell ⟨go72, (t594 : Int).toNat * 6 + 2, none⟩ (.int .i64 t599)).setCell ⟨go72, (t594 : Int).toNat * 6 + 3, none⟩ (.int .i64 t600)).setCell ⟨go72, (t594 : Int).toNat * 6 + 4, none⟩ (.int .i64 t601)).setCell ⟨go72, (t594 : Int).toNat * 6 + 5, none⟩ (.int .i64 t602)).heap[gb566]? = some (.cells #[.string (⟨#[]⟩ : ByteArray), .slice none 0 0] 40 (0, 0))) := ⟨by (with_reducible repeat (first | refine blk_drewN ?_ _ | refine blk_drew ?_ | refine blk_alloc ?_ _)); refine blk_far ?_ (by have h_ := Kd.R_ne HO570.out BK566.out (by decide); intro e_; exact h_ (by rw [e_]; rfl)) _; (with_reducible repeat (first | refine blk_drewN ?_ _ | refine blk_drew ?_ | refine blk_alloc ?_ _)); refine blk_far ?_ (by have h_ := Kd.R_ne HO570.out BK566.out (by decide); intro e_; exact h_ (by rw [e_]; rfl)) _; (with_reducible repeat (first | refine blk_drewN ?_ _ | refine blk_drew ?_ | refine blk_alloc ?_ _)); refine blk_far ?_ (by have h_ := Kd.R_ne HO570.out BK566.out (by decide); intro e_; exact h_ (by rw [e_]; rfl)) _; (with_reducible repeat (first | refine blk_drewN ?_ _ | refine blk_drew ?_ | refine blk_alloc ?_ _)); refine blk_far ?_ (by have h_ := Kd.R_ne HO570.out BK566.out (by decide); intro e_; exact h_ (by rw [e_]; rfl)) _; (with_reducible repeat (first | refine blk_drewN ?_ _ | refine blk_drew ?_ | refine blk_alloc ?_ _)); refine blk_far ?_ (by have h_ := Kd.R_ne HO570.out BK566.out (by decide); intro e_; exact h_ (by rw [e_]; rfl)) _; (with_reducible repeat (first | refine blk_drewN ?_ _ | refine blk_drew ?_ | refine blk_alloc ?_ _)); refine blk_far ?_ (by have h_ := Kd.R_ne HO570.out BK566.out (by decide); intro e_; exact h_ (by rw [e_]; rfl)) _; (with_reducible repeat (first | refine blk_drewN ?_ _ | refine blk_drew ?_ | refine blk_alloc ?_ _)); exact BK566.out⟩
      have n3 : Aside0 (((((((w89.setCell ⟨go72, (t594 : Int).toNat * 6, none⟩ (.int .i64 t597)).setCell ⟨go72, (t594 : Int).toNat * 6 + 1, none⟩ (.int .i64 t598)).setCell ⟨go72, (t594 : Int).toNat * 6 + 2, none⟩ (.int .i64 t599)).setCell ⟨go72, (t594 : Int).toNat * 6 + 3, none⟩ (.int .i64 t600)).setCell ⟨go72, (t594 : Int).toNat * 6 + 4, none⟩ (.int .i64 t601)).setCell ⟨go72, (t594 : Int).toNat * 6 + 5, none⟩ (.int .i64 t602)).heap[gb571]? = some (.cells #[.string t567, .slice (some ⟨go72, 0, none⟩) t568.length co84] 40 (0, 0))) := ⟨by (with_reducible repeat (first | refine blk_drewN ?_ _ | refine blk_drew ?_ | refine blk_alloc ?_ _)); refine blk_far ?_ (by have h_ := Kd.R_ne HO570.out BK571.out (by decide); intro e_; exact h_ (by rw [e_]; rfl)) _; (with_reducible repeat (first | refine blk_drewN ?_ _ | refine blk_drew ?_ | refine blk_alloc ?_ _)); refine blk_far ?_ (by have h_ := Kd.R_ne HO570.out BK571.out (by decide); intro e_; exact h_ (by rw [e_]; rfl)) _; (with_reducible repeat (first | refine blk_drewN ?_ _ | refine blk_drew ?_ | refine blk_alloc ?_ _)); refine blk_far ?_ (by have h_ := Kd.R_ne HO570.out BK571.out (by decide); intro e_; exact h_ (by rw [e_]; rfl)) _; (with_reducible repeat (first | refine blk_drewN ?_ _ | refine blk_drew ?_ | refine blk_alloc ?_ _)); refine blk_far ?_ (by have h_ := Kd.R_ne HO570.out BK571.out (by decide); intro e_; exact h_ (by rw [e_]; rfl)) _; (with_reducible repeat (first | refine blk_drewN ?_ _ | refine blk_drew ?_ | refine blk_alloc ?_ _)); refine blk_far ?_ (by have h_ := Kd.R_ne HO570.out BK571.out (by decide); intro e_; exact h_ (by rw [e_]; rfl)) _; (with_reducible repeat (first | refine blk_drewN ?_ _ | refine blk_drew ?_ | refine blk_alloc ?_ _)); refine blk_far ?_ (by have h_ := Kd.R_ne HO570.out BK571.out (by decide); intro e_; exact h_ (by rw [e_]; rfl)) _; (with_reducible repeat (first | refine blk_drewN ?_ _ | refine blk_drew ?_ | refine blk_alloc ?_ _)); exact BK571.out⟩
      have n4 : Aside0 (IsS127 w0 ((((((w89.setCell ⟨go72, (t594 : Int).toNat * 6, none⟩ (.int .i64 t597)).setCell ⟨go72, (t594 : Int).toNat * 6 + 1, none⟩ (.int .i64 t598)).setCell ⟨go72, (t594 : Int).toNat * 6 + 2, none⟩ (.int .i64 t599)).setCell ⟨go72, (t594 : Int).toNat * 6 + 3, none⟩ (.int .i64 t600)).setCell ⟨go72, (t594 : Int).toNat * 6 + 4, none⟩ (.int .i64 t601)).setCell ⟨go72, (t594 : Int).toNat * 6 + 5, none⟩ (.int .i64 t602)) g s0_0 t603) := ⟨by repeat (first | (with_reducible first | exact HI0.out | apply IsS127.alloc | apply IsS127.drewN | apply IsS127.drew | apply IsS127.set_1 | refine IsS127.far ?_ HN0_go72.out _ | refine IsS127.far ?_ HN0_go72.out _ | refine IsS127.far ?_ HN0_go72.out _ | refine IsS127.far ?_ HN0_go72.out _ | refine IsS127.far ?_ HN0_go72.out _ | refine IsS127.far ?_ HN0_go72.out _ | refine IsS127.far ?_ NB0_565.out _ | refine IsS127.far ?_ NB0_566.out _ | refine IsS127.far ?_ NB0_571.out _) | exact HI0.out)⟩
      have n5 : Aside0 (KeepBut w ((((((w89.setCell ⟨go72, (t594 : Int).toNat * 6, none⟩ (.int .i64 t597)).setCell ⟨go72, (t594 : Int).toNat * 6 + 1, none⟩ (.int .i64 t598)).setCell ⟨go72, (t594 : Int).toNat * 6 + 2, none⟩ (.int .i64 t599)).setCell ⟨go72, (t594 : Int).toNat * 6 + 3, none⟩ (.int .i64 t600)).setCell ⟨go72, (t594 : Int).toNat * 6 + 4, none⟩ (.int .i64 t601)).setCell ⟨go72, (t594 : Int).toNat * 6 + 5, none⟩ (.int .i64 t602)) g none) := ⟨by repeat (first | (with_reducible first | exact HK.out | apply KeepBut.set_ | apply keep_drewN | apply keep_drew | apply keep_alloc | refine keep_far ?_ GB72.out _ | refine keep_far ?_ GB72.out _ | refine keep_far ?_ GB72.out _ | refine keep_far ?_ GB72.out _ | refine keep_far ?_ GB72.out _ | refine keep_far ?_ GB72.out _ | refine keep_far ?_ GW565.out _ | refine keep_far ?_ GW566.out _ | refine keep_far ?_ GW571.out _) | exact HK.out)⟩
      have n6 : Aside0 (Below w0.heap.size w0 ((((((w89.setCell ⟨go72, (t594 : Int).toNat * 6, none⟩ (.int .i64 t597)).setCell ⟨go72, (t594 : Int).toNat * 6 + 1, none⟩ (.int .i64 t598)).setCell ⟨go72, (t594 : Int).toNat * 6 + 2, none⟩ (.int .i64 t599)).setCell ⟨go72, (t594 : Int).toNat * 6 + 3, none⟩ (.int .i64 t600)).setCell ⟨go72, (t594 : Int).toNat * 6 + 4, none⟩ (.int .i64 t601)).setCell ⟨go72, (t594 : Int).toNat * 6 + 5, none⟩ (.int .i64 t602))) := ⟨by repeat (first | (with_reducible first | exact HB.out | apply below_alloc | apply pw_below_drewN | apply below_drew1 | refine below_set ?_ (Nat.le_trans HL.out GB72.out) | refine below_set ?_ (Nat.le_trans HL.out GB72.out) | refine below_set ?_ (Nat.le_trans HL.out GB72.out) | refine below_set ?_ (Nat.le_trans HL.out GB72.out) | refine below_set ?_ (Nat.le_trans HL.out GB72.out) | refine below_set ?_ (Nat.le_trans HL.out GB72.out) | refine below_set ?_ (IsS127.ge HI0.out) | refine below_set ?_ GE565.out | refine below_set ?_ GE566.out | refine below_set ?_ GE571.out) | exact HB.out)⟩
      (try clear HO570)
      (try clear BK565)
      (try clear BK566)
      (try clear BK571)
      (try clear HI0)
      (try clear HK)
      (try clear HB)
      generalize ((((((w89.setCell ⟨go72, (t594 : Int).toNat * 6, none⟩ (.int .i64 t597)).setCell ⟨go72, (t594 : Int).toNat * 6 + 1, none⟩ (.int .i64 t598)).setCell ⟨go72, (t594 : Int).toNat * 6 + 2, none⟩ (.int .i64 t599)).setCell ⟨go72, (t594 : Int).toNat * 6 + 3, none⟩ (.int .i64 t600)).setCell ⟨go72, (t594 : Int).toNat * 6 + 4, none⟩ (.int .i64 t601)).setCell ⟨go72, (t594 : Int).toNat * 6 + 5, none⟩ (.int .i64 t602)) = w91 at n0 n1 n2 n3 n4 n5 n6 ⊢
      have HO570 := n0
      have BK565 := n1
      have BK566 := n2
      have BK571 := n3
      have HI0 := n4
      have HK := n5
      have HB := n6
      clear n0 n1 n2 n3 n4 n5 n6
      obtain ⟨hcz92_0, hcz92_1, hfz92_0, hfz92_1⟩ := zc2 BK571
      have hnb93 := NB566_0.out
      have hnc93 := NB0_566.out
      obtain ⟨hcz94_0, hcz94_1, hfz94_0, hfz94_1⟩ := zc2 BK566
      try go_wp2
      refine bodyPost_ret (results_cell_row rfl _ _ gb566 40 #[.string t567, .slice (some ⟨go72, 0, none⟩) t568.length co84] (0, 0) _ rfl (bp BK566) Try.underlying40 rfl (by kernel_rfl)) rfl ?_
      exact ⟨_, re, by (with_reducible repeat (first | apply Kd.R_alloc | apply Kd.R_drewN | apply Kd.R_drew)); exact Kd.R_mono (rf (Kd.R_types HO570.out BK566.out (by decide))) (fun _ hk => trivial), by exact qi HI0, by exact qb HI0 HB, by exact qk _ _ _ HK⟩
     ·rw [if_neg c70] at H
      exact absurd H (by simp)
    ·rw [if_neg c69] at H
     exact absurd H (by simp)
   ·rw [if_neg c67] at H
    have c67b0 : decide (0 < (t568.length : Int)) = false := decide_eq_false c67
    have c67b1 : decide (0 < t568.length) = false := decide_eq_false (by omega)
    clear c67
    simp only [Option.some.injEq, Prod.mk.injEq] at H
    obtain ⟨rfl, rfl, rfl⟩ := H
    go_enter Try.func88, Try.ntmps88
    go_wp2_with (first | ((with_reducible refine gate_dst (N := 3) rfl ?_); refine be 3 #[.string a1_0, .slice A1_1 l1_1.length c1_1] 40 ?_; intro gb565 hg w95 hbox hb; have _ := ra (IsS127.below (qi HI0) hb); have _ := kt (qk _ _ _ HK) hb; have _ := ra (below_step (qb HI0 HB) hb); have _ := ra (hbox); have _ := ns hg (qk w _ g HK); have _ := nt hg HW0 (qk w _ g HK); have _ := nl hg (qi HI0); have _ := nr hg (qi HI0); clear HI0 HK HB; rename_i HI0 HK HB BK565 GW565 GE565 NB0_565 NB565_0; clear hb hbox hg) | ((with_reducible refine gate_dst (N := 4) rfl ?_); refine be 4 #[.string (⟨#[]⟩ : ByteArray), .slice none 0 0] 40 ?_; intro gb566 hg w96 hbox hb; have _ := ra (IsS127.below (qi HI0) hb); have _ := bb (bk BK565) hb; have _ := kt (qk _ _ _ HK) hb; have _ := ra (below_step (qb HI0 HB) hb); have _ := ra (hbox); have _ := ns hg (qk w _ g HK); have _ := nt hg HW0 (qk w _ g HK); have _ := bn hg (bk BK565); have _ := bm hg (bk BK565); have _ := nl hg (qi HI0); have _ := nr hg (qi HI0); clear HI0 BK565 HK HB; rename_i HI0 BK565 HK HB BK566 GW566 GE566 NB565_566 NB566_565 NB0_566 NB566_0; clear hb hbox hg; have hnb97 := NB565_566.out; have hnc97 := NB566_565.out; have hnb98 := NB565_0.out; have hnc98 := NB0_565.out; obtain ⟨hcz99_0, hcz99_1, hfz99_0, hfz99_1⟩ := zc2 BK565) | ((with_reducible refine gate_callee (f := 89) rfl ?_); refine gl (some 9) Try.func89 #[.agg #[.string a1_0, .slice A1_1 l1_1.length c1_1]] ?_; (with_reducible refine (spec_l2Copy.calls a1_0 _ _ l1_1 t567 t568 _ ?side1 ?side2 A3.out).mono ?_); (case side1 => exact Kd.C_foot_now HR1_1.out (qk _ _ _ HK)); (case side2 => exact HC1_1.out); rintro e w100 ⟨v569, rfl, ho0, hb⟩; refine ⟨_, rfl, ?_⟩; have _ := ra (Kd.R_lower ho0 (keep_size (w := w) (g := g) (row := none) (qk _ _ _ HK))); have _ := ra (IsS127.below (qi HI0) hb); have _ := bb (bk BK565) hb; have _ := bb (bk BK566) hb; have _ := kt (qk _ _ _ HK) hb; have _ := ra (below_step (qb HI0 HB) hb); clear HI0 BK565 BK566 HK HB; rename_i HO570 HI0 BK565 BK566 HK HB; (try clear hb); (try clear hb2); (try clear hk); (try clear hi); (try clear ho0)) | ((with_reducible refine gate_dst (N := 5) rfl ?_); refine be 5 #[.string (⟨#[]⟩ : ByteArray), .slice none 0 0] 40 ?_; intro gb571 hg w101 hbox hb; have _ := ra (Kd.R_below (rq HO570) hb); have _ := ra (IsS127.below (qi HI0) hb); have _ := bb (bk BK565) hb; have _ := bb (bk BK566) hb; have _ := kt (qk _ _ _ HK) hb; have _ := ra (below_step (qb HI0 HB) hb); have _ := ra (hbox); have _ := ns hg (qk w _ g HK); have _ := nt hg HW0 (qk w _ g HK); have _ := bn hg (bk BK565); have _ := bm hg (bk BK565); have _ := bn hg (bk BK566); have _ := bm hg (bk BK566); have _ := nl hg (qi HI0); have _ := nr hg (qi HI0); clear HO570 HI0 BK565 BK566 HK HB; rename_i HO570 HI0 BK565 BK566 HK HB BK571 GW571 GE571 NB565_571 NB571_565 NB566_571 NB571_566 NB0_571 NB571_0; clear hb hbox hg; have hnb102 := NB571_565.out; have hnc102 := NB565_571.out; have hnb103 := NB571_566.out; have hnc103 := NB566_571.out; have hnb104 := NB571_0.out; have hnc104 := NB0_571.out; obtain ⟨hcz105_0, hcz105_1, hfz105_0, hfz105_1⟩ := zc2 BK571; obtain ⟨Ao106, co106, eo106⟩ := Kd.R_slice HO570.out; subst eo106) | ((with_reducible refine gate_callee (f := 87) rfl ?_); refine gl (some 11) Try.func87 #[.pointer (some ⟨g, 0, none⟩), .int .i64 4] ?_; (with_reducible refine (spec_l1Rd_pick.calls k g s0_0 s0_1 4 t572 t573 w0 _ ?side1 ?side2 A4.out).mono ?_); (case side1 => exact qi HI0); (case side2 => exact qb HI0 HB); rintro e w107 ⟨rfl, hi, hb, hk⟩; refine ⟨_, rfl, ?_⟩; have _ := kv hk (bk BK565) NB565_0; have _ := kv hk (bk BK566) NB566_0; have _ := ra (Kd.R_mono (Kd.R_keep (IsS127.apart (show IsS127 w0 _ g s0_0 s0_1 from qi HI0) (Kd.R_mono (rf (Kd.R_types HO570.out BK571.out (by decide))) (fun _ h_ => h_.1)) (by decide)) hk (fun _ h => h.2)) (fun _ h => h.1)); have _ := ra (KeepBut.blk hk (g' := gb571) (o := .cells #[.string t567, .slice Ao106 t568.length co106] 40 (0, 0)) (bp BK571) NB571_0.out (by simp)); have _ := ku (qk _ _ _ HK) hk; have _ := ra (hb); have _ := ra (hi); clear BK565 BK566 HO570 BK571 HK HB HI0; rename_i BK565 BK566 HO570 BK571 HK HB HI0; (try clear hb); (try clear hb2); (try clear hk); (try clear hi); obtain ⟨hcz108_0, hcz108_1, hfz108_0, hfz108_1⟩ := zc2 BK571; have hnb109 := NB566_0.out; have hnc109 := NB0_566.out; obtain ⟨hcz110_0, hcz110_1, hfz110_0, hfz110_1⟩ := zc2 BK566))
    refine bodyPost_ret (results_cell_row rfl _ _ gb566 40 #[.string t567, .slice Ao106 t568.length co106] (0, 0) _ rfl (bp BK566) Try.underlying40 rfl (by kernel_rfl)) rfl ?_
    exact ⟨_, re, by (with_reducible repeat (first | apply Kd.R_alloc | apply Kd.R_drewN | apply Kd.R_drew)); exact Kd.R_mono (rf (Kd.R_types HO570.out BK566.out (by decide))) (fun _ hk => trivial), by exact qi HI0, by exact qb HI0 HB, by exact qk _ _ _ HK⟩
end Go.Proofs.Ytdbomnhdpniigaa.PA
