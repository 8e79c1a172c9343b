/- Contracts of the functions spec_l2Tube, spec_l2SpoilTube, spec_l2Any. (Began as a print of the kit's tool.) -/
import Derived.Test.YtfoapgcnjnogiaaPAd
import Derived.Test.YtfoapgcnjnogiaaCx
import Derived.Test.YtfoapgcnjnogiaaCz
import Derived.Test.YtfoapgcnjnogiaaCy
import Derived.Test.YtfoapgcnjnogiaaGDrawA
import Derived.Test.YtfoapgcnjnogiaaGDrawA
import Derived.Test.YtfoapgcnjnogiaaGBase
namespace Go.Proofs.Ytfoapgcnjnogiaa.PA
open Go.RowKit Go.Proofs.YtfoapgcnjnogiaaW.PrintWords Go.Proofs.YtfoapgcnjnogiaaW.PrintLast Go.Proofs.YtfoapgcnjnogiaaW.PrintMore Go.Proofs.Ytfoapgcnjnogiaa.Z
attribute [local go_sem] max2_int min2_int max_two min_two max_three min_three max_four min_four
set_option linter.unusedVariables false
set_option linter.unusedSimpArgs false
def spec_l2Tube.T15 : Bool × List (List Nat × List Nat) := (true, [([], []), ([0], [0]), ([1], [1]), ([], []), ([3], [3]), ([2, 4], [2, 4]), ([0, 1, 2, 3, 4, 5], []), ([6, 5, 4, 0, 1, 2, 3, 4, 5], [5, 6])])
def spec_l2Tube.B15 : List Nat := [0, 1, 3, 0, 8, 31, 63, 127]
theorem spec_l2Tube.tab15 : rtab .any (opsOf Try.f71 15) = spec_l2Tube.T15 := by kernel_rfl
theorem spec_l2Tube.bits15 : waitsOk spec_l2Tube.T15.2 spec_l2Tube.B15 = true := by kernel_rfl
def spec_l2Tube.T16 : Bool × List (List Nat × List Nat) := (true, [([], []), ([0], [0]), ([1], [1]), ([], []), ([3], [3]), ([2, 4], [2, 4]), ([0, 1, 2, 3, 4, 5], []), ([6, 5, 4, 0, 1, 2, 3, 4, 5], [5, 6])])
def spec_l2Tube.B16 : List Nat := [0, 1, 3, 0, 8, 31, 63, 127]
theorem spec_l2Tube.tab16 : rtab .any (opsOf Try.f71 16) = spec_l2Tube.T16 := by kernel_rfl
theorem spec_l2Tube.bits16 : waitsOk spec_l2Tube.T16.2 spec_l2Tube.B16 = true := by kernel_rfl
def spec_l2Tube.T21 : Bool × List (List Nat × List Nat) := (true, [([], []), ([0], [0]), ([], []), ([2], [2]), ([3], [3]), ([1, 4, 3], [1, 4]), ([0, 1, 2, 3, 4, 5], []), ([6, 5, 5, 0, 1, 2, 3, 4, 5], [5, 6])])
def spec_l2Tube.B21 : List Nat := [0, 1, 0, 4, 12, 31, 63, 127]
theorem spec_l2Tube.tab21 : rtab .any (opsOf Try.f71 21) = spec_l2Tube.T21 := by kernel_rfl
theorem spec_l2Tube.bits21 : waitsOk spec_l2Tube.T21.2 spec_l2Tube.B21 = true := by kernel_rfl
set_option maxHeartbeats 8000000 in
set_option maxRecDepth 100000 in
theorem spec_l2Tube.calls (k : Nat) (g : Nat) (s0_0 : List Int) (s0_1 : Int) (a1 : ByteArray) (r1 : ByteArray) (r2 : List (S26)) (r3 : Int) (w0 w : World) (hI : IsS90 w0 w g s0_0 s0_1) (hB : Below w0.heap.size w0 w) (h : spec_l2Tube.f k s0_0 s0_1 a1 = some (r1, r2, r3)) :
  Calls Try.prog 71 #[.pointer (some ⟨g, 0, none⟩), .string a1] w fun e w' => ∃ v1_ : Value, e = .returned (.agg #[.string r1, v1_]) ∧ Kd.R k26 26 w' w.heap.size (fun _ => True) v1_ r2 ∧ IsS90 w0 w' g s0_0 r3 ∧ Below w0.heap.size w0 w' ∧ KeepBut w w' g none := by
 have hu39 := Try.underlying39
 have hu26 := Try.underlying26
 have HI0 := Aside0.mk hI
 have HK := ra (KeepBut.refl w g none)
 have HL := Aside0.mk hB.size
 clear hI
 have HW0 := Aside0.mk hB.size
 have HB := Aside0.mk hB
 clear hB
 have H : ((spec_l1DrawBox.f k s0_0 s0_1).bind fun bt582 => ((spec_l1Rd_pick.f k s0_0 bt582.2.2.2.2.2.2 7).bind fun bt590 => (spec_l2Tube.l0 k bt590.1 s0_0 bt590.2 a1 ([] : List (S26)) bt582.1 bt582.2.1 bt582.2.2.1 bt582.2.2.2.1 bt582.2.2.2.2.1 bt582.2.2.2.2.2.1))) = some (r1, r2, r3) := h
 clear h
 obtain ⟨⟨t582, t583, t584, t585, t586, t587, t588⟩, A3, H⟩ := bo H
 try dsimp only at H
 obtain ⟨⟨t590, t591⟩, A4, H⟩ := bo H
 try dsimp only at H
 have H' := Aside0.mk H
 clear H
 go_enter Try.func71, Try.ntmps71
 go_wp2_with (first | ((with_reducible refine gate_dst (N := 4) rfl ?_); refine be 4 #[.string (⟨#[]⟩ : ByteArray), .slice none 0 0] 39 ?_; intro gb580 hg w5 hbox hb; have _ := ra (IsS90.below (qi HI0) hb); have _ := kt (qk _ _ _ HK) hb; have _ := ra (below_step (qb HI0 HB) hb); have _ := ra (hbox); have _ := ns hg (qk w _ g HK); have _ := nt hg HW0 (qk w _ g HK); have _ := nl hg (qi HI0); have _ := nr hg (qi HI0); clear HI0 HK HB; rename_i HI0 HK HB BK580 GW580 GE580 NB0_580 NB580_0; clear hb hbox hg) | ((with_reducible refine gate_dst (N := 5) rfl ?_); refine be 5 #[.string (⟨#[]⟩ : ByteArray), .slice none 0 0] 39 ?_; intro gb581 hg w6 hbox hb; have _ := ra (IsS90.below (qi HI0) hb); have _ := bb (bk BK580) hb; have _ := kt (qk _ _ _ HK) hb; have _ := ra (below_step (qb HI0 HB) hb); have _ := ra (hbox); have _ := ns hg (qk w _ g HK); have _ := nt hg HW0 (qk w _ g HK); have _ := bn hg (bk BK580); have _ := bm hg (bk BK580); have _ := nl hg (qi HI0); have _ := nr hg (qi HI0); clear HI0 BK580 HK HB; rename_i HI0 BK580 HK HB BK581 GW581 GE581 NB580_581 NB581_580 NB0_581 NB581_0; clear hb hbox hg; have hnb7 := NB581_580.out; have hnc7 := NB580_581.out; have hnb8 := NB581_0.out; have hnc8 := NB0_581.out; obtain ⟨hcz9_0, hcz9_1, hfz9_0, hfz9_1⟩ := zc2 BK581) | ((with_reducible refine gate_callee (f := 68) rfl ?_); refine gl (some 13) Try.func68 #[.pointer (some ⟨g, 0, none⟩)] ?_; (with_reducible refine (spec_l1DrawBox.calls k g s0_0 s0_1 t582 t583 t584 t585 t586 t587 t588 w0 _ ?side1 ?side2 A3.out).mono ?_); (case side1 => exact qi HI0); (case side2 => exact qb HI0 HB); rintro e w10 ⟨rfl, hi, hb, hk⟩; refine ⟨_, rfl, ?_⟩; have _ := kv hk (bk BK580) NB580_0; have _ := ra (KeepBut.blk hk (g' := gb581) (o := .cells #[.string a1, .slice none 0 0] 39 (0, 0)) (bp BK581) NB581_0.out (by simp)); have _ := ku (qk _ _ _ HK) hk; have _ := ra (hb); have _ := ra (hi); clear BK580 BK581 HK HB HI0; rename_i BK580 BK581 HK HB HI0; (try clear hb); (try clear hb2); (try clear hk); (try clear hi)) | ((with_reducible refine gate_dst (N := 6) rfl ?_); refine be 6 #[.int .i64 0, .int .i64 0, .int .i64 0, .int .i64 0, .int .i64 0, .int .i64 0] 26 ?_; intro gb589 hg w11 hbox hb; have _ := ra (IsS90.below (qi HI0) hb); have _ := bb (bk BK580) hb; have _ := bb (bk BK581) hb; have _ := kt (qk _ _ _ HK) hb; have _ := ra (below_step (qb HI0 HB) hb); have _ := ra (hbox); have _ := ns hg (qk w _ g HK); have _ := nt hg HW0 (qk w _ g HK); have _ := bn hg (bk BK580); have _ := bm hg (bk BK580); have _ := bn hg (bk BK581); have _ := bm hg (bk BK581); have _ := nl hg (qi HI0); have _ := nr hg (qi HI0); clear HI0 BK580 BK581 HK HB; rename_i HI0 BK580 BK581 HK HB BK589 GW589 GE589 NB580_589 NB589_580 NB581_589 NB589_581 NB0_589 NB589_0; clear hb hbox hg; have hnb12 := NB589_580.out; have hnc12 := NB580_589.out; have hnb13 := NB589_581.out; have hnc13 := NB581_589.out; have hnb14 := NB589_0.out; have hnc14 := NB0_589.out; obtain ⟨hcz15_0, hcz15_1, hcz15_2, hcz15_3, hcz15_4, hcz15_5, hfz15_0, hfz15_1, hfz15_2, hfz15_3, hfz15_4, hfz15_5⟩ := zc6 BK589) | ((with_reducible refine gate_callee (f := 65) rfl ?_); refine gl (some 15) Try.func65 #[.pointer (some ⟨g, 0, none⟩), .int .i64 7] ?_; (with_reducible refine (spec_l1Rd_pick.calls k g s0_0 t588 7 t590 t591 w0 _ ?side1 ?side2 A4.out).mono ?_); (case side1 => exact qi HI0); (case side2 => exact qb HI0 HB); rintro e w16 ⟨rfl, hi, hb, hk⟩; refine ⟨_, rfl, ?_⟩; have _ := kv hk (bk BK580) NB580_0; have _ := kv hk (bk BK581) NB581_0; have _ := ra (KeepBut.blk hk (g' := gb589) (o := .cells #[.int .i64 t582, .int .i64 t583, .int .i64 t584, .int .i64 t585, .int .i64 t586, .int .i64 t587] 26 (0, 0)) (bp BK589) NB589_0.out (by simp)); have _ := ku (qk _ _ _ HK) hk; have _ := ra (hb); have _ := ra (hi); clear BK580 BK581 BK589 HK HB HI0; rename_i BK580 BK581 BK589 HK HB HI0; (try clear hb); (try clear hb2); (try clear hk); (try clear hi)))
 go_loopg [7] k (fun kq v7 w' => ∃ (x7_1 : Int) (x1001_1 : Int) (x582001_1 : List (S26)) (x590000_1 : Int) (x590001_1 : Int) (x590002_1 : Int) (x590003_1 : Int) (x590004_1 : Int) (x590005_1 : Int) (u582001 : Value), v7 = .int .i64 x7_1 ∧ Aside0 (spec_l2Tube.l0 kq x7_1 s0_0 x1001_1 a1 x582001_1 x590000_1 x590001_1 x590002_1 x590003_1 x590004_1 x590005_1 = some (r1, r2, r3)) ∧ Aside0 (kq ≤ k) ∧ Aside0 (Kd.R k26 26 w' w.heap.size (fun k_ => k_ ≠ gb589) u582001 x582001_1) ∧ Aside0 (w'.heap[gb580]? = some (.cells #[.string (⟨#[]⟩ : ByteArray), (.slice none 0 0)] 39 (0, 0))) ∧ Aside0 (w'.heap[gb581]? = some (.cells #[.string a1, u582001] 39 (0, 0))) ∧ Aside0 (w'.heap[gb589]? = some (.cells #[.int .i64 x590000_1, .int .i64 x590001_1, .int .i64 x590002_1, .int .i64 x590003_1, .int .i64 x590004_1, .int .i64 x590005_1] 26 (0, 0))) ∧ Aside0 (IsS90 w0 w' g s0_0 x1001_1) ∧ Aside0 (KeepBut w w' g none) ∧ Aside0 (Below w0.heap.size w0 w'))
 case atStart => exact ⟨(t590), (t591), (([] : List (S26))), (t582), (t583), (t584), (t585), (t586), (t587), (.slice none 0 0), rs, H', ⟨Nat.le_refl _⟩, ⟨by first | exact Kd.R_nil _ _ _ _ _ | exact Kd.N_nil _ _ _ _ _ | exact Kd.V_nil _ _ _ _ _ | exact Kd.Q_nil _ _ _ _ _ | exact Kd.S_nil _ _ _ _ _⟩, ⟨bk BK580⟩, ⟨bk BK581⟩, ⟨bk BK589⟩, ⟨by exact qi HI0⟩, ⟨by exact qk _ _ _ HK⟩, ⟨by exact qb HI0 HB⟩⟩
 case round =>
  clear H'
  try clear hcz15_0
  try clear hcz15_1
  try clear hcz15_2
  try clear hcz15_3
  try clear hcz15_4
  try clear hcz15_5
  try clear hcz9_0
  try clear hcz9_1
  try clear hfz15_0
  try clear hfz15_1
  try clear hfz15_2
  try clear hfz15_3
  try clear hfz15_4
  try clear hfz15_5
  try clear hfz9_0
  try clear hfz9_1
  obtain ⟨x7_1, x1001_1, x582001_1, x590000_1, x590001_1, x590002_1, x590003_1, x590004_1, x590005_1, u582001, rfl, HA, HK1, HO_582001, BK580, BK581, BK589, HI0, HK, HB⟩ := hrel
  cases gk with
  | zero => exact absurd HA.out (by simp [spec_l2Tube.l0])
  | succ k1 =>
   have H := HA.out
   clear HA
   simp only [spec_l2Tube.l0] at H
   by_cases c17 : x7_1 > 0
   ·rw [if_pos c17] at H
    have c17b0 : decide (0 < x7_1) = true := decide_eq_true c17
    clear c17
    by_cases c18 : x582001_1.length < 2932031007402
    ·rw [if_pos c18] at H
     have LMc18 := Aside0.mk c18
     clear c18
     obtain ⟨y592, hy_⟩ : ∃ y_ : List (S26), y_ = (x582001_1 ++ [(⟨x590000_1, x590001_1, x590002_1, x590003_1, x590004_1, x590005_1⟩ : S26)]) := ⟨_, rfl⟩
     replace H : ((spec_l1Rd_pick.f k1 s0_0 x1001_1 10).bind fun bt595 => (if bt595.1 = 0 then ((spec_l1DrawBox.f k1 s0_0 bt595.2).bind fun bt597 => (spec_l2Tube.l0 k1 (wrap64 (x7_1 - 1)) s0_0 bt597.2.2.2.2.2.2 a1 y592 bt597.1 bt597.2.1 bt597.2.2.1 bt597.2.2.2.1 bt597.2.2.2.2.1 bt597.2.2.2.2.2.1)) else ((spec_l1Rd_pick.f k1 s0_0 bt595.2 3).bind fun bt604 => ((spec_l1Rd_pick.f k1 s0_0 bt604.2 3).bind fun bt606 => ((spec_l1In.f (wrap64 ((wrap64 (x590000_1 + bt604.1)) - 1)) 0 15).bind fun t608 => (if t608 = true then ((spec_l1In.f (wrap64 ((wrap64 (x590001_1 + bt606.1)) - 1)) 0 15).bind fun t609 => (spec_l2Tube.j1 k1 x7_1 (wrap64 ((wrap64 (x590000_1 + bt604.1)) - 1)) (wrap64 ((wrap64 (x590001_1 + bt606.1)) - 1)) t609 s0_0 bt606.2 a1 y592 x590000_1 x590001_1 x590002_1 x590003_1 x590004_1 x590005_1)) else (spec_l2Tube.j1 k1 x7_1 (wrap64 ((wrap64 (x590000_1 + bt604.1)) - 1)) (wrap64 ((wrap64 (x590001_1 + bt606.1)) - 1)) false s0_0 bt606.2 a1 y592 x590000_1 x590001_1 x590002_1 x590003_1 x590004_1 x590005_1))))))) = some (r1, r2, r3) := yh
     have Ny592 := ra hy_
     clear hy_
     obtain ⟨⟨t595, t596⟩, A19, H⟩ := bo H
     try dsimp only at H
     by_cases c20 : t595 = 0
     ·rw [if_pos c20] at H
      have c20b0 : (t595 == 0) = true := beq_iff_eq.mpr c20
      have c20b1 : (t595 != 0) = false := bne_eq_false_iff_eq.mpr c20
      clear c20
      obtain ⟨⟨t597, t598, t599, t600, t601, t602, t603⟩, A21, H⟩ := bo H
      try dsimp only at H
      have H' := Aside0.mk H
      clear H
      have hnb22 := NB581_580.out
      have hnc22 := NB580_581.out
      have hnb23 := NB581_589.out
      have hnc23 := NB589_581.out
      have hnb24 := NB581_0.out
      have hnc24 := NB0_581.out
      obtain ⟨hcz25_0, hcz25_1, hfz25_0, hfz25_1⟩ := zc2 BK581
      have hnb26 := NB589_580.out
      have hnc26 := NB580_589.out
      have hnb27 := NB589_0.out
      have hnc27 := NB0_589.out
      obtain ⟨hcz28_0, hcz28_1, hcz28_2, hcz28_3, hcz28_4, hcz28_5, hfz28_0, hfz28_1, hfz28_2, hfz28_3, hfz28_4, hfz28_5⟩ := zc6 BK589
      go_wp2_with (first | ((with_reducible refine gate_builtin (b := .append) (xs := #[.tmp 21, .tmp 23]) rfl ?_); at_builtin; refine Kd.R_append k26 w.heap.size rfl (.tmp 21) (.tmp 23) 37 26 (.agg #[(.int .i64 0), (.int .i64 0), (.int .i64 0), (.int .i64 0), (.int .i64 0), (.int .i64 0)]) 48 rfl Try.underlying37 info26 rfl (by decide) (by omega) u582001 x582001_1 (⟨x590000_1, x590001_1, x590002_1, x590003_1, x590004_1, x590005_1⟩ : S26) [.int .i64 x590000_1, .int .i64 x590001_1, .int .i64 x590002_1, .int .i64 x590003_1, .int .i64 x590004_1, .int .i64 x590005_1] (fun k_ => k_ ≠ gb589) (fun _ => False) rfl rfl ?aP (fun _ hk => hk.elim) ?aF ?aO (Below.refl _ _) ?aS ?aL ?_; (case aP => exact k26_mkM _ _ _ (⟨x590000_1, x590001_1, x590002_1, x590003_1, x590004_1, x590005_1⟩ : S26)); (case aF => exact (fun k_ hk => Kd.freshB (g := gb589) (o := .cells #[.int .i64 x590000_1, .int .i64 x590001_1, .int .i64 x590002_1, .int .i64 x590003_1, .int .i64 x590004_1, .int .i64 x590005_1] 26 (0, 0)) (bk BK589) k_ hk)); (case aO => exact (rq HO_582001)); (case aS => exact (keep_size (w := w) (g := g) (row := none) (qk _ _ _ HK))); (case aL => have := LMc18.out; omega); intro v593 w29 ho hb hg hat; rw [← Ny592.out] at ho; have _ := ra (blk_grown (g := gb580) (o := .cells #[.string (⟨#[]⟩ : ByteArray), .slice none 0 0] 39 (0, 0)) (bk BK580) hg (Kd.R_ne HO_582001.out BK580.out (by decide))); have _ := ra (blk_grown (g := gb581) (o := .cells #[.string a1, u582001] 39 (0, 0)) (bk BK581) hg (Kd.R_ne HO_582001.out BK581.out (by decide))); have _ := ra (blk_grown (g := gb589) (o := .cells #[.int .i64 x590000_1, .int .i64 x590001_1, .int .i64 x590002_1, .int .i64 x590003_1, .int .i64 x590004_1, .int .i64 x590005_1] 26 (0, 0)) (bk BK589) hg (Kd.R_away HO_582001.out (fun _ hk => hk))); have _ := ra (IsS90.grown (qi HI0) hg (IsS90.own_ne HI0.out HO_582001.out (by decide))); have _ := ra (below_weaken (qb HI0 HB) HL.out hb); have _ := ra (KeepBut.trans (qk _ _ _ HK) (KeepBut.of_grown hg g) (Kd.R_base2 HO_582001.out)); have _ := ra (ho); clear BK580 BK581 BK589 HI0 HB HK HO_582001; rename_i BK580 BK581 BK589 HI0 HB HK HO594; clear ho hb hg hat; obtain ⟨Ao30, co30, eo30⟩ := Kd.R_slice HO594.out; subst eo30; obtain ⟨hcz31_0, hcz31_1, hfz31_0, hfz31_1⟩ := zc2 BK581) | ((with_reducible refine gate_callee (f := 65) rfl ?_); refine gl (some 27) Try.func65 #[.pointer (some ⟨g, 0, none⟩), .int .i64 10] ?_; (with_reducible refine (spec_l1Rd_pick.calls k1 g s0_0 x1001_1 10 t595 t596 w0 _ ?side1 ?side2 A19.out).mono ?_); (case side1 => exact qi HI0); (case side2 => exact qb HI0 HB); rintro e w32 ⟨rfl, hi, hb, hk⟩; refine ⟨_, rfl, ?_⟩; have _ := kv hk (bk BK580) NB580_0; have _ := ra (KeepBut.blk hk (g' := gb581) (o := .cells #[.string a1, .slice Ao30 y592.length co30] 39 (0, 0)) (bp BK581) NB581_0.out (by simp)); have _ := kv hk (bk BK589) NB589_0; have _ := ra (Kd.R_mono (Kd.R_keep (IsS90.apart (show IsS90 w0 _ g s0_0 x1001_1 from qi HI0) (Kd.R_mono (rf (Kd.R_types HO594.out BK581.out (by decide))) (fun _ h_ => h_.1)) (by decide)) hk (fun _ h => h.2)) (fun _ h => h.1)); have _ := ku (qk _ _ _ HK) hk; have _ := ra (hb); have _ := ra (hi); clear BK580 BK581 BK589 HO594 HK HB HI0; rename_i BK580 BK581 BK589 HO594 HK HB HI0; (try clear hb); (try clear hb2); (try clear hk); (try clear hi)) | ((with_reducible refine gate_callee (f := 68) rfl ?_); refine gl (some 30) Try.func68 #[.pointer (some ⟨g, 0, none⟩)] ?_; (with_reducible refine (spec_l1DrawBox.calls k1 g s0_0 t596 t597 t598 t599 t600 t601 t602 t603 w0 _ ?side1 ?side2 A21.out).mono ?_); (case side1 => exact qi HI0); (case side2 => exact qb HI0 HB); rintro e w33 ⟨rfl, hi, hb, hk⟩; refine ⟨_, rfl, ?_⟩; have _ := kv hk (bk BK580) NB580_0; have _ := kv hk (bk BK581) NB581_0; have _ := kv hk (bk BK589) NB589_0; have _ := ra (Kd.R_mono (Kd.R_keep (IsS90.apart (show IsS90 w0 _ g s0_0 t596 from qi HI0) (rq HO594) (by decide)) hk (fun _ h => h.2)) (fun _ h => h.1)); have _ := ku (qk _ _ _ HK) hk; have _ := ra (hb); have _ := ra (hi); clear BK580 BK581 BK589 HO594 HK HB HI0; rename_i BK580 BK581 BK589 HO594 HK HB HI0; (try clear hb); (try clear hb2); (try clear hk); (try clear hi); obtain ⟨hcz34_0, hcz34_1, hcz34_2, hcz34_3, hcz34_4, hcz34_5, hfz34_0, hfz34_1, hfz34_2, hfz34_3, hfz34_4, hfz34_5⟩ := zc6 BK589))
      go_roundg k1
      case measure => have := HK1.out; omega
      case rel => exact ⟨(wrap64 (x7_1 - 1)), (t603), (y592), (t597), (t598), (t599), (t600), (t601), (t602), (.slice Ao30 y592.length co30), rs, H', ⟨by have := HK1.out; omega⟩, ⟨by (with_reducible repeat (first | apply Kd.R_alloc | apply Kd.R_drewN | apply Kd.R_drew)); exact Kd.R_mono (rf (Kd.R_mono HO594.out (fun k_ hk => (⟨hk, hk⟩ : _ ∧ k_ ≠ gb589)))) (fun _ hk => hk.1)⟩, ⟨bk BK580⟩, ⟨bk BK581⟩, ⟨bp BK589⟩, ⟨by exact qi HI0⟩, ⟨by exact qk _ _ _ HK⟩, ⟨by exact qb HI0 HB⟩⟩
     ·rw [if_neg c20] at H
      have c20b0 : (t595 == 0) = false := beq_eq_false_iff_ne.mpr c20
      have c20b1 : (t595 != 0) = true := bne_iff_ne.mpr c20
      obtain ⟨⟨t604, t605⟩, A35, H⟩ := bo H
      try dsimp only at H
      obtain ⟨⟨t606, t607⟩, A36, H⟩ := bo H
      try dsimp only at H
      have HC37 := Aside0.mk H
      clear H
      have hnb38 := NB581_580.out
      have hnc38 := NB580_581.out
      have hnb39 := NB581_589.out
      have hnc39 := NB589_581.out
      have hnb40 := NB581_0.out
      have hnc40 := NB0_581.out
      obtain ⟨hcz41_0, hcz41_1, hfz41_0, hfz41_1⟩ := zc2 BK581
      have hnb42 := NB589_580.out
      have hnc42 := NB580_589.out
      have hnb43 := NB589_0.out
      have hnc43 := NB0_589.out
      obtain ⟨hcz44_0, hcz44_1, hcz44_2, hcz44_3, hcz44_4, hcz44_5, hfz44_0, hfz44_1, hfz44_2, hfz44_3, hfz44_4, hfz44_5⟩ := zc6 BK589
      try go_wp2_with (first | ((with_reducible refine gate_builtin (b := .append) (xs := #[.tmp 21, .tmp 23]) rfl ?_); at_builtin; refine Kd.R_append k26 w.heap.size rfl (.tmp 21) (.tmp 23) 37 26 (.agg #[(.int .i64 0), (.int .i64 0), (.int .i64 0), (.int .i64 0), (.int .i64 0), (.int .i64 0)]) 48 rfl Try.underlying37 info26 rfl (by decide) (by omega) u582001 x582001_1 (⟨x590000_1, x590001_1, x590002_1, x590003_1, x590004_1, x590005_1⟩ : S26) [.int .i64 x590000_1, .int .i64 x590001_1, .int .i64 x590002_1, .int .i64 x590003_1, .int .i64 x590004_1, .int .i64 x590005_1] (fun k_ => k_ ≠ gb589) (fun _ => False) rfl rfl ?aP (fun _ hk => hk.elim) ?aF ?aO (Below.refl _ _) ?aS ?aL ?_; (case aP => exact k26_mkM _ _ _ (⟨x590000_1, x590001_1, x590002_1, x590003_1, x590004_1, x590005_1⟩ : S26)); (case aF => exact (fun k_ hk => Kd.freshB (g := gb589) (o := .cells #[.int .i64 x590000_1, .int .i64 x590001_1, .int .i64 x590002_1, .int .i64 x590003_1, .int .i64 x590004_1, .int .i64 x590005_1] 26 (0, 0)) (bk BK589) k_ hk)); (case aO => exact (rq HO_582001)); (case aS => exact (keep_size (w := w) (g := g) (row := none) (qk _ _ _ HK))); (case aL => have := LMc18.out; omega); intro v593 w45 ho hb hg hat; rw [← Ny592.out] at ho; have _ := ra (blk_grown (g := gb580) (o := .cells #[.string (⟨#[]⟩ : ByteArray), .slice none 0 0] 39 (0, 0)) (bk BK580) hg (Kd.R_ne HO_582001.out BK580.out (by decide))); have _ := ra (blk_grown (g := gb581) (o := .cells #[.string a1, u582001] 39 (0, 0)) (bk BK581) hg (Kd.R_ne HO_582001.out BK581.out (by decide))); have _ := ra (blk_grown (g := gb589) (o := .cells #[.int .i64 x590000_1, .int .i64 x590001_1, .int .i64 x590002_1, .int .i64 x590003_1, .int .i64 x590004_1, .int .i64 x590005_1] 26 (0, 0)) (bk BK589) hg (Kd.R_away HO_582001.out (fun _ hk => hk))); have _ := ra (IsS90.grown (qi HI0) hg (IsS90.own_ne HI0.out HO_582001.out (by decide))); have _ := ra (below_weaken (qb HI0 HB) HL.out hb); have _ := ra (KeepBut.trans (qk _ _ _ HK) (KeepBut.of_grown hg g) (Kd.R_base2 HO_582001.out)); have _ := ra (ho); clear BK580 BK581 BK589 HI0 HB HK HO_582001; rename_i BK580 BK581 BK589 HI0 HB HK HO594; clear ho hb hg hat; obtain ⟨Ao46, co46, eo46⟩ := Kd.R_slice HO594.out; subst eo46; obtain ⟨hcz47_0, hcz47_1, hfz47_0, hfz47_1⟩ := zc2 BK581) | ((with_reducible refine gate_callee (f := 65) rfl ?_); refine gl (some 27) Try.func65 #[.pointer (some ⟨g, 0, none⟩), .int .i64 10] ?_; (with_reducible refine (spec_l1Rd_pick.calls k1 g s0_0 x1001_1 10 t595 t596 w0 _ ?side1 ?side2 A19.out).mono ?_); (case side1 => exact qi HI0); (case side2 => exact qb HI0 HB); rintro e w48 ⟨rfl, hi, hb, hk⟩; refine ⟨_, rfl, ?_⟩; have _ := kv hk (bk BK580) NB580_0; have _ := ra (KeepBut.blk hk (g' := gb581) (o := .cells #[.string a1, .slice Ao46 y592.length co46] 39 (0, 0)) (bp BK581) NB581_0.out (by simp)); have _ := kv hk (bk BK589) NB589_0; have _ := ra (Kd.R_mono (Kd.R_keep (IsS90.apart (show IsS90 w0 _ g s0_0 x1001_1 from qi HI0) (Kd.R_mono (rf (Kd.R_types HO594.out BK581.out (by decide))) (fun _ h_ => h_.1)) (by decide)) hk (fun _ h => h.2)) (fun _ h => h.1)); have _ := ku (qk _ _ _ HK) hk; have _ := ra (hb); have _ := ra (hi); clear BK580 BK581 BK589 HO594 HK HB HI0; rename_i BK580 BK581 BK589 HO594 HK HB HI0; (try clear hb); (try clear hb2); (try clear hk); (try clear hi)))
      have _ := ra (Kd.R_drew HO594.out)
      have _ := ra (blk_drew BK580.out)
      have _ := ra (blk_drew BK581.out)
      have _ := ra (blk_drew BK589.out)
      have _ := ra (IsS90.drew HI0.out)
      have _ := ra (keep_drew HK.out)
      have _ := ra (below_drew1 HB.out)
      clear HO594 BK580 BK581 BK589 HI0 HK HB
      rename_i HO594 BK580 BK581 BK589 HI0 HK HB
      refine start_ (n := 7) (S := fun w' => w'.cell? ⟨gb589, 0, none⟩ = some (.int .i64 x590000_1) ∧ w'.cell? ⟨gb589, 1, none⟩ = some (.int .i64 x590001_1) ∧ w'.cell? ⟨gb589, 2, none⟩ = some (.int .i64 x590002_1) ∧ w'.cell? ⟨gb589, 3, none⟩ = some (.int .i64 x590003_1) ∧ w'.cell? ⟨gb589, 4, none⟩ = some (.int .i64 x590004_1) ∧ w'.cell? ⟨gb589, 5, none⟩ = some (.int .i64 x590005_1)) (ds := []) (bl 7 0) (by kernel_rfl) rfl rfl ⟨(blk_cell BK589.out 0).trans rfl, (blk_cell BK589.out 1).trans rfl, (blk_cell BK589.out 2).trans rfl, (blk_cell BK589.out 3).trans rfl, (blk_cell BK589.out 4).trans rfl, (blk_cell BK589.out 5).trans rfl⟩ (fun hHeld => ?_)
      generalize w48.drew = w49 at HO594 BK580 BK581 BK589 HI0 HK HB hHeld ⊢
      refine pu 0 31 (bl 7 1) ?_
      refine pu 2 33 (bl 7 5) ?_
      refine tk 1 32 (bl 7 7) ?_ hHeld
      refine oe 3 34 (bl 7 15) (fun K hK => ?_)
      refine gs Try.func65 #[.pointer (some ⟨g, 0, none⟩), .int .i64 3] ?_
      with_reducible refine (spec_l1Rd_pick.calls k1 g s0_0 t596 3 t604 t605 w0 _ ?side1 ?side2 A35.out).mono ?_
      (case side1 => exact qi HI0)
      (case side2 => exact qb HI0 HB)
      rintro e w50 ⟨rfl, hi, hb, hk⟩
      refine ⟨_, rfl, ?_⟩
      have _ := kv hk (bk BK580) NB580_0
      have _ := kv hk (bk BK581) NB581_0
      have _ := kv hk (bk BK589) NB589_0
      have _ := ra (Kd.R_mono (Kd.R_keep (IsS90.apart (show IsS90 w0 _ g s0_0 t596 from qi HI0) (rq HO594) (by decide)) hk (fun _ h => h.2)) (fun _ h => h.1))
      have _ := ku (qk _ _ _ HK) hk
      have _ := ra (hb)
      have _ := ra (hi)
      clear BK580 BK581 BK589 HO594 HK HB HI0
      rename_i BK580 BK581 BK589 HO594 HK HB HI0
      (try clear hb)
      (try clear hb2)
      (try clear hk)
      (try clear hi)
      refine hK.out _ _ ⟨(blk_cell BK589.out 0).trans rfl, (blk_cell BK589.out 1).trans rfl, (blk_cell BK589.out 2).trans rfl, (blk_cell BK589.out 3).trans rfl, (blk_cell BK589.out 4).trans rfl, (blk_cell BK589.out 5).trans rfl⟩ (fun hHeld => ?_)
      clear hK K
      refine nm 34 ?_
      refine pu 4 35 (bl 7 31) ?_
      refine pu 5 36 (bl 7 63) ?_
      refine pu 6 8 (bl 7 127) ?_
      refine done_ (by kernel_rfl) ?_
      try go_wp2
      have _ := ra (Kd.R_drew HO594.out)
      have _ := ra (blk_drew BK580.out)
      have _ := ra (blk_drew BK581.out)
      have _ := ra (blk_drew BK589.out)
      have _ := ra (IsS90.drew HI0.out)
      have _ := ra (keep_drew HK.out)
      have _ := ra (below_drew1 HB.out)
      clear HO594 BK580 BK581 BK589 HI0 HK HB
      rename_i HO594 BK580 BK581 BK589 HI0 HK HB
      refine start_ (n := 7) (S := fun w' => w'.cell? ⟨gb589, 0, none⟩ = some (.int .i64 x590000_1) ∧ w'.cell? ⟨gb589, 1, none⟩ = some (.int .i64 x590001_1) ∧ w'.cell? ⟨gb589, 2, none⟩ = some (.int .i64 x590002_1) ∧ w'.cell? ⟨gb589, 3, none⟩ = some (.int .i64 x590003_1) ∧ w'.cell? ⟨gb589, 4, none⟩ = some (.int .i64 x590004_1) ∧ w'.cell? ⟨gb589, 5, none⟩ = some (.int .i64 x590005_1)) (ds := []) (bl 7 0) (by kernel_rfl) rfl rfl ⟨(blk_cell BK589.out 0).trans rfl, (blk_cell BK589.out 1).trans rfl, (blk_cell BK589.out 2).trans rfl, (blk_cell BK589.out 3).trans rfl, (blk_cell BK589.out 4).trans rfl, (blk_cell BK589.out 5).trans rfl⟩ (fun hHeld => ?_)
      generalize w50.drew = w51 at HO594 BK580 BK581 BK589 HI0 HK HB hHeld ⊢
      refine pu 0 37 (bl 7 1) ?_
      refine pu 2 39 (bl 7 5) ?_
      refine tk 1 38 (bl 7 7) ?_ hHeld
      refine oe 3 40 (bl 7 15) (fun K hK => ?_)
      refine gs Try.func65 #[.pointer (some ⟨g, 0, none⟩), .int .i64 3] ?_
      with_reducible refine (spec_l1Rd_pick.calls k1 g s0_0 t605 3 t606 t607 w0 _ ?side1 ?side2 A36.out).mono ?_
      (case side1 => exact qi HI0)
      (case side2 => exact qb HI0 HB)
      rintro e w52 ⟨rfl, hi, hb, hk⟩
      refine ⟨_, rfl, ?_⟩
      have _ := kv hk (bk BK580) NB580_0
      have _ := kv hk (bk BK581) NB581_0
      have _ := kv hk (bk BK589) NB589_0
      have _ := ra (Kd.R_mono (Kd.R_keep (IsS90.apart (show IsS90 w0 _ g s0_0 t605 from qi HI0) (rq HO594) (by decide)) hk (fun _ h => h.2)) (fun _ h => h.1))
      have _ := ku (qk _ _ _ HK) hk
      have _ := ra (hb)
      have _ := ra (hi)
      clear BK580 BK581 BK589 HO594 HK HB HI0
      rename_i BK580 BK581 BK589 HO594 HK HB HI0
      (try clear hb)
      (try clear hb2)
      (try clear hk)
      (try clear hi)
      refine hK.out _ _ ⟨(blk_cell BK589.out 0).trans rfl, (blk_cell BK589.out 1).trans rfl, (blk_cell BK589.out 2).trans rfl, (blk_cell BK589.out 3).trans rfl, (blk_cell BK589.out 4).trans rfl, (blk_cell BK589.out 5).trans rfl⟩ (fun hHeld => ?_)
      clear hK K
      refine nm 40 ?_
      refine pu 4 41 (bl 7 31) ?_
      refine pu 5 42 (bl 7 63) ?_
      refine pu 6 9 (bl 7 127) ?_
      refine done_ (by kernel_rfl) ?_
      go_upto_region 11 with (fail)
      go_cut [48] (fun v48 wc => ∃ (kq : Nat) (x48_36 : Bool), v48 = .bool x48_36 ∧ Aside0 (spec_l2Tube.j1 kq x7_1 (wrap64 ((wrap64 (x590000_1 + t604)) - 1)) (wrap64 ((wrap64 (x590001_1 + t606)) - 1)) x48_36 s0_0 t607 a1 y592 x590000_1 x590001_1 x590002_1 x590003_1 x590004_1 x590005_1 = some (r1, r2, r3)) ∧ Aside0 (kq ≤ k1) ∧ Aside0 (Kd.R k26 26 wc w.heap.size (fun k_ => k_ ≠ gb589) (.slice Ao46 y592.length co46) y592) ∧ Aside0 (wc.heap[gb580]? = some (.cells #[.string (⟨#[]⟩ : ByteArray), (.slice none 0 0)] 39 (0, 0))) ∧ Aside0 (wc.heap[gb581]? = some (.cells #[.string a1, (.slice Ao46 y592.length co46)] 39 (0, 0))) ∧ Aside0 (wc.heap[gb589]? = some (.cells #[.int .i64 x590000_1, .int .i64 x590001_1, .int .i64 x590002_1, .int .i64 x590003_1, .int .i64 x590004_1, .int .i64 x590005_1] 26 (0, 0))) ∧ Aside0 (IsS90 w0 wc g s0_0 t607) ∧ Aside0 (KeepBut w wc g none) ∧ Aside0 (Below w0.heap.size w0 wc))
      case first =>
       have H := HC37.out
       clear HC37
       obtain ⟨t608, A53, H⟩ := bo H
       by_cases c54 : t608 = true
       ·subst c54
        replace H := it H rfl
        obtain ⟨t609, A55, H⟩ := bo H
        have H' := Aside0.mk H
        clear H
        go_wp2_with (first | ((with_reducible refine gate_callee (f := 49) rfl ?_); refine gl (some 44) Try.func49 #[.int .i64 (wrap64 ((wrap64 (x590000_1 + t604)) - 1)), .int .i64 0, .int .i64 15] ?_; (with_reducible refine (spec_l1In.calls (wrap64 ((wrap64 (x590000_1 + t604)) - 1)) 0 15 true _ A53.out).mono ?_); rintro e w' ⟨rfl, ⟨nd, rfl⟩⟩; refine ⟨_, rfl, ?_⟩) | (go_at_call 49; (with_reducible refine (spec_l1In.calls (wrap64 ((wrap64 (x590001_1 + t606)) - 1)) 0 15 t609 _ A55.out).mono ?_); rintro e w' ⟨rfl, ⟨nd, rfl⟩⟩))
        go_meet
        case rel => exact ⟨_, (t609), rs, H', ⟨by have := HK1.out; first | omega | exact Nat.le_refl _⟩, ⟨rq HO594⟩, ⟨bk BK580⟩, ⟨bk BK581⟩, ⟨bk BK589⟩, ⟨by exact qi HI0⟩, ⟨by exact qk _ _ _ HK⟩, ⟨by exact qb HI0 HB⟩⟩
       ·replace c54 := Bool.eq_false_iff.mpr c54
        subst c54
        have H1 : (spec_l2Tube.j1 k1 x7_1 (wrap64 ((wrap64 (x590000_1 + t604)) - 1)) (wrap64 ((wrap64 (x590001_1 + t606)) - 1)) false s0_0 t607 a1 y592 x590000_1 x590001_1 x590002_1 x590003_1 x590004_1 x590005_1) = some (r1, r2, r3) := by rw [if_neg (show ¬ (false = true) by decide)] at H; exact H
        clear H
        have H := H1
        clear H1
        have H' := Aside0.mk H
        clear H
        go_wp2_with (first | ((with_reducible refine gate_callee (f := 49) rfl ?_); refine gl (some 44) Try.func49 #[.int .i64 (wrap64 ((wrap64 (x590000_1 + t604)) - 1)), .int .i64 0, .int .i64 15] ?_; (with_reducible refine (spec_l1In.calls (wrap64 ((wrap64 (x590000_1 + t604)) - 1)) 0 15 false _ A53.out).mono ?_); rintro e w' ⟨rfl, ⟨nd, rfl⟩⟩; refine ⟨_, rfl, ?_⟩))
        go_meet
        case rel => exact ⟨_, (false), rs, H', ⟨by have := HK1.out; first | omega | exact Nat.le_refl _⟩, ⟨rq HO594⟩, ⟨bk BK580⟩, ⟨bk BK581⟩, ⟨bk BK589⟩, ⟨by exact qi HI0⟩, ⟨by exact qk _ _ _ HK⟩, ⟨by exact qb HI0 HB⟩⟩
      case rest =>
       clear HC37
       try clear c17
       try clear c17b0
       try clear c18
       try clear c20
       try clear c20b0
       try clear c20b1
       try clear c54
       try clear hcz15_0
       try clear hcz15_1
       try clear hcz15_2
       try clear hcz15_3
       try clear hcz15_4
       try clear hcz15_5
       try clear hcz25_0
       try clear hcz25_1
       try clear hcz28_0
       try clear hcz28_1
       try clear hcz28_2
       try clear hcz28_3
       try clear hcz28_4
       try clear hcz28_5
       try clear hcz31_0
       try clear hcz31_1
       try clear hcz34_0
       try clear hcz34_1
       try clear hcz34_2
       try clear hcz34_3
       try clear hcz34_4
       try clear hcz34_5
       try clear hcz41_0
       try clear hcz41_1
       try clear hcz44_0
       try clear hcz44_1
       try clear hcz44_2
       try clear hcz44_3
       try clear hcz44_4
       try clear hcz44_5
       try clear hcz47_0
       try clear hcz47_1
       try clear hcz9_0
       try clear hcz9_1
       try clear hfz15_0
       try clear hfz15_1
       try clear hfz15_2
       try clear hfz15_3
       try clear hfz15_4
       try clear hfz15_5
       try clear hfz25_0
       try clear hfz25_1
       try clear hfz28_0
       try clear hfz28_1
       try clear hfz28_2
       try clear hfz28_3
       try clear hfz28_4
       try clear hfz28_5
       try clear hfz31_0
       try clear hfz31_1
       try clear hfz34_0
       try clear hfz34_1
       try clear hfz34_2
       try clear hfz34_3
       try clear hfz34_4
       try clear hfz34_5
       try clear hfz41_0
       try clear hfz41_1
       try clear hfz44_0
       try clear hfz44_1
       try clear hfz44_2
       try clear hfz44_3
       try clear hfz44_4
       try clear hfz44_5
       try clear hfz47_0
       try clear hfz47_1
       try clear hfz9_0
       try clear hfz9_1
       obtain ⟨kq, x48_36, rfl, HA, HJ36, HO_582001, BK580, BK581, BK589, HI0, HK, HB⟩ := hcut
       cases kq with
       | zero => exact absurd HA.out (by simp [spec_l2Tube.j1])
       | succ kj36 =>
        have H := HA.out
        clear HA
        simp only [spec_l2Tube.j1] at H
        have HC56 := Aside0.mk H
        clear H
        go_upto_if 48 with (fail)
        go_cut [] (fun wc => ∃ (kq : Nat) (x590000_55 : Int) (x590001_55 : Int), Aside0 (spec_l2Tube.j2 kq x7_1 s0_0 t607 a1 y592 x590000_55 x590001_55 x590002_1 x590003_1 x590004_1 x590005_1 = some (r1, r2, r3)) ∧ Aside0 (kq ≤ kj36) ∧ Aside0 (Kd.R k26 26 wc w.heap.size (fun k_ => k_ ≠ gb589) (.slice Ao46 y592.length co46) y592) ∧ Aside0 (wc.heap[gb580]? = some (.cells #[.string (⟨#[]⟩ : ByteArray), (.slice none 0 0)] 39 (0, 0))) ∧ Aside0 (wc.heap[gb581]? = some (.cells #[.string a1, (.slice Ao46 y592.length co46)] 39 (0, 0))) ∧ Aside0 (wc.heap[gb589]? = some (.cells #[.int .i64 x590000_55, .int .i64 x590001_55, .int .i64 x590002_1, .int .i64 x590003_1, .int .i64 x590004_1, .int .i64 x590005_1] 26 (0, 0))) ∧ Aside0 (IsS90 w0 wc g s0_0 t607) ∧ Aside0 (KeepBut w wc g none) ∧ Aside0 (Below w0.heap.size w0 wc))
        case first =>
         have H := HC56.out
         clear HC56
         by_cases c57 : x48_36 = true
         ·subst c57
          replace H := it H rfl
          have H' := Aside0.mk H
          clear H
          have hnb58 := NB589_580.out
          have hnc58 := NB580_589.out
          have hnb59 := NB589_581.out
          have hnc59 := NB581_589.out
          have hnb60 := NB589_0.out
          have hnc60 := NB0_589.out
          obtain ⟨hcz61_0, hcz61_1, hcz61_2, hcz61_3, hcz61_4, hcz61_5, hfz61_0, hfz61_1, hfz61_2, hfz61_3, hfz61_4, hfz61_5⟩ := zc6 BK589
          go_wp2
          go_meet
          case rel => exact ⟨_, ((wrap64 ((wrap64 (x590000_1 + t604)) - 1))), ((wrap64 ((wrap64 (x590001_1 + t606)) - 1))), H', ⟨by have := HK1.out; have := HJ36.out; first | omega | exact Nat.le_refl _⟩, ⟨by (with_reducible repeat (first | apply Kd.R_alloc | apply Kd.R_drewN | apply Kd.R_drew)); exact Kd.R_mono (rf (Kd.R_mono HO_582001.out (fun k_ hk => (⟨hk, hk⟩ : _ ∧ k_ ≠ gb589)))) (fun _ hk => hk.1)⟩, ⟨bk BK580⟩, ⟨bk BK581⟩, ⟨by (with_reducible repeat (first | refine blk_drewN ?_ _ | refine blk_drew ?_ | refine blk_alloc ?_ _)); refine blk_put (cs := #[.int .i64 (wrap64 ((wrap64 (x590000_1 + t604)) - 1)), .int .i64 x590001_1, .int .i64 x590002_1, .int .i64 x590003_1, .int .i64 x590004_1, .int .i64 x590005_1]) ?_ 1 _ rfl; (with_reducible repeat (first | refine blk_drewN ?_ _ | refine blk_drew ?_ | refine blk_alloc ?_ _)); refine blk_put (cs := #[.int .i64 x590000_1, .int .i64 x590001_1, .int .i64 x590002_1, .int .i64 x590003_1, .int .i64 x590004_1, .int .i64 x590005_1]) ?_ 0 _ rfl; (with_reducible repeat (first | refine blk_drewN ?_ _ | refine blk_drew ?_ | refine blk_alloc ?_ _)); exact BK589.out⟩, ⟨by exact qi HI0⟩, ⟨by exact qk _ _ _ HK⟩, ⟨by exact qb HI0 HB⟩⟩
         ·replace c57 := Bool.eq_false_iff.mpr c57
          subst c57
          have H1 : (spec_l2Tube.j2 kj36 x7_1 s0_0 t607 a1 y592 x590000_1 x590001_1 x590002_1 x590003_1 x590004_1 x590005_1) = some (r1, r2, r3) := by rw [if_neg (show ¬ (false = true) by decide)] at H; exact H
          clear H
          have H := H1
          clear H1
          have H' := Aside0.mk H
          clear H
          go_wp2
          go_meet
          case rel => exact ⟨_, (x590000_1), (x590001_1), H', ⟨by have := HK1.out; have := HJ36.out; first | omega | exact Nat.le_refl _⟩, ⟨rq HO_582001⟩, ⟨bk BK580⟩, ⟨bk BK581⟩, ⟨bk BK589⟩, ⟨by exact qi HI0⟩, ⟨by exact qk _ _ _ HK⟩, ⟨by exact qb HI0 HB⟩⟩
        case rest =>
         clear HC56
         try clear c17
         try clear c17b0
         try clear c18
         try clear c20
         try clear c20b0
         try clear c20b1
         try clear c54
         try clear c57
         try clear hcz15_0
         try clear hcz15_1
         try clear hcz15_2
         try clear hcz15_3
         try clear hcz15_4
         try clear hcz15_5
         try clear hcz25_0
         try clear hcz25_1
         try clear hcz28_0
         try clear hcz28_1
         try clear hcz28_2
         try clear hcz28_3
         try clear hcz28_4
         try clear hcz28_5
         try clear hcz31_0
         try clear hcz31_1
         try clear hcz34_0
         try clear hcz34_1
         try clear hcz34_2
         try clear hcz34_3
         try clear hcz34_4
         try clear hcz34_5
         try clear hcz41_0
         try clear hcz41_1
         try clear hcz44_0
         try clear hcz44_1
         try clear hcz44_2
         try clear hcz44_3
         try clear hcz44_4
         try clear hcz44_5
         try clear hcz47_0
         try clear hcz47_1
         try clear hcz61_0
         try clear hcz61_1
         try clear hcz61_2
         try clear hcz61_3
         try clear hcz61_4
         try clear hcz61_5
         try clear hcz9_0
         try clear hcz9_1
         try clear hfz15_0
         try clear hfz15_1
         try clear hfz15_2
         try clear hfz15_3
         try clear hfz15_4
         try clear hfz15_5
         try clear hfz25_0
         try clear hfz25_1
         try clear hfz28_0
         try clear hfz28_1
         try clear hfz28_2
         try clear hfz28_3
         try clear hfz28_4
         try clear hfz28_5
         try clear hfz31_0
         try clear hfz31_1
         try clear hfz34_0
         try clear hfz34_1
         try clear hfz34_2
         try clear hfz34_3
         try clear hfz34_4
         try clear hfz34_5
         try clear hfz41_0
         try clear hfz41_1
         try clear hfz44_0
         try clear hfz44_1
         try clear hfz44_2
         try clear hfz44_3
         try clear hfz44_4
         try clear hfz44_5
         try clear hfz47_0
         try clear hfz47_1
         try clear hfz61_0
         try clear hfz61_1
         try clear hfz61_2
         try clear hfz61_3
         try clear hfz61_4
         try clear hfz61_5
         try clear hfz9_0
         try clear hfz9_1
         obtain ⟨kq, x590000_55, x590001_55, HA, HJ55, HO_582001, BK580, BK581, BK589, HI0, HK, HB⟩ := hcut
         cases kq with
         | zero => exact absurd HA.out (by simp [spec_l2Tube.j2])
         | succ kj55 =>
          have H := HA.out
          clear HA
          simp only [spec_l2Tube.j2] at H
          by_cases c62 : (wrap64 (x590005_1 + 20)) < 10000
          ·rw [if_pos c62] at H
           have c62b0 : decide ((wrap64 (x590005_1 + 20)) < 10000) = true := decide_eq_true c62
           clear c62
           obtain ⟨⟨t610, t611⟩, A63, H⟩ := bo H
           try dsimp only at H
           obtain ⟨⟨t612, t613⟩, A64, H⟩ := bo H
           try dsimp only at H
           by_cases c65 : (wrap64 ((wrap64 (x590005_1 + 1)) + t612)) < (wrap64 ((wrap64 (x590004_1 + 1)) + t610))
           ·rw [if_pos c65] at H
            have c65b0 : decide ((wrap64 ((wrap64 (x590005_1 + 1)) + t612)) < (wrap64 ((wrap64 (x590004_1 + 1)) + t610))) = true := decide_eq_true c65
            clear c65
            have H' := Aside0.mk H
            clear H
            have hnb66 := NB589_580.out
            have hnc66 := NB580_589.out
            have hnb67 := NB589_581.out
            have hnc67 := NB581_589.out
            have hnb68 := NB589_0.out
            have hnc68 := NB0_589.out
            obtain ⟨hcz69_0, hcz69_1, hcz69_2, hcz69_3, hcz69_4, hcz69_5, hfz69_0, hfz69_1, hfz69_2, hfz69_3, hfz69_4, hfz69_5⟩ := zc6 BK589
            try go_wp2
            have _ := ra (Kd.R_drew HO_582001.out)
            have _ := ra (blk_drew BK580.out)
            have _ := ra (blk_drew BK581.out)
            have _ := ra (blk_drew BK589.out)
            have _ := ra (IsS90.drew HI0.out)
            have _ := ra (keep_drew HK.out)
            have _ := ra (below_drew1 HB.out)
            clear HO_582001 BK580 BK581 BK589 HI0 HK HB
            rename_i HO_582001 BK580 BK581 BK589 HI0 HK HB
            refine start_ (n := 8) (S := fun w' => w'.cell? ⟨gb589, 0, none⟩ = some (.int .i64 x590000_55) ∧ w'.cell? ⟨gb589, 1, none⟩ = some (.int .i64 x590001_55) ∧ w'.cell? ⟨gb589, 2, none⟩ = some (.int .i64 x590002_1) ∧ w'.cell? ⟨gb589, 3, none⟩ = some (.int .i64 x590003_1) ∧ w'.cell? ⟨gb589, 4, none⟩ = some (.int .i64 x590004_1) ∧ w'.cell? ⟨gb589, 5, none⟩ = some (.int .i64 x590005_1)) (ds := [7]) #[false, false, false, false, false, false, false, false] (by kernel_rfl) rfl rfl ⟨(blk_cell BK589.out 0).trans rfl, (blk_cell BK589.out 1).trans rfl, (blk_cell BK589.out 2).trans rfl, (blk_cell BK589.out 3).trans rfl, (blk_cell BK589.out 4).trans rfl, (blk_cell BK589.out 5).trans rfl⟩ (fun hHeld => ?_); refine with_tabW spec_l2Tube.tab15 spec_l2Tube.bits15 (fun HT_ HW_ => ?_)
            generalize wc.drew = w70 at HO_582001 BK580 BK581 BK589 HI0 HK HB hHeld ⊢
            refine pu 0 57 (bl 8 1) ?_
            refine pu 3 60 (bl 8 9) ?_
            refine tk 1 58 (bl 8 11) ?_ hHeld
            refine pu 2 59 (bl 8 15) ?_
            refine oe 4 61 (bl 8 31) (fun K hK => ?_)
            refine gs Try.func65 #[.pointer (some ⟨g, 0, none⟩), .int .i64 4] ?_
            with_reducible refine (spec_l1Rd_pick.calls kj55 g s0_0 t607 4 t610 t611 w0 _ ?side1 ?side2 A63.out).mono ?_
            (case side1 => exact qi HI0)
            (case side2 => exact qb HI0 HB)
            rintro e w71 ⟨rfl, hi, hb, hk⟩
            refine ⟨_, rfl, ?_⟩
            have _ := ra (Kd.R_mono (Kd.R_keep (IsS90.apart (show IsS90 w0 _ g s0_0 t607 from qi HI0) (rq HO_582001) (by decide)) hk (fun _ h => h.2)) (fun _ h => h.1))
            have _ := kv hk (bk BK580) NB580_0
            have _ := kv hk (bk BK581) NB581_0
            have _ := kv hk (bk BK589) NB589_0
            have _ := ku (qk _ _ _ HK) hk
            have _ := ra (hb)
            have _ := ra (hi)
            clear HO_582001 BK580 BK581 BK589 HK HB HI0
            rename_i HO_582001 BK580 BK581 BK589 HK HB HI0
            (try clear hb)
            (try clear hb2)
            (try clear hk)
            (try clear hi)
            refine hK.out _ _ ⟨(blk_cell BK589.out 0).trans rfl, (blk_cell BK589.out 1).trans rfl, (blk_cell BK589.out 2).trans rfl, (blk_cell BK589.out 3).trans rfl, (blk_cell BK589.out 4).trans rfl, (blk_cell BK589.out 5).trans rfl⟩ (fun hHeld => ?_)
            clear hK K
            refine nm 61 ?_
            refine pu 5 62 (bl 8 63) ?_
            refine pu 6 63 (bl 8 127) ?_
            refine last_ (i := 7) (N := none) #[true, true, true, true, true, true, true, true] rfl rfl (one_of HT_.out (by kernel_rfl)) (by decide) (fun K hK => ?_)
            have hs72 : w71.cell? ⟨gb589, 4, none⟩ = some (.int .i64 x590004_1) := (blk_cell BK589.out 4).trans rfl
            have hfs72 := blk_frozen BK589.out 4
            have hns72_0 := NB580_589.out
            have hns72_1 := NB581_589.out
            have hms72_0 := NB589_580.out
            have hms72_1 := NB589_581.out
            refine skip_ (w1 := ?_) (by rfl) rfl ?_ ?_
            rotate_left
            ·go_simp
             rfl
            refine hK.out _ _ ?_
            clear hK K
            refine done_ (done_of HT_.out (by kernel_rfl)) ?_
            try go_wp2
            have n0 : Aside0 (Kd.R k26 26 (w71.setCell ⟨gb589, 4, none⟩ (.int .i64 (wrap64 ((wrap64 (x590004_1 + 1)) + t610)))) w.heap.size (fun k_ => k_ ≠ gb589) (.slice Ao46 y592.length co46) y592) := ⟨by (with_reducible repeat (first | apply Kd.R_alloc | apply Kd.R_drewN | apply Kd.R_drew)); exact Kd.R_mono (rf (Kd.R_mono HO_582001.out (fun k_ hk => (⟨hk, hk⟩ : _ ∧ k_ ≠ gb589)))) (fun _ hk => hk.1)⟩
            have n1 : Aside0 ((w71.setCell ⟨gb589, 4, none⟩ (.int .i64 (wrap64 ((wrap64 (x590004_1 + 1)) + t610)))).heap[gb580]? = some (.cells #[.string (⟨#[]⟩ : ByteArray), .slice none 0 0] 39 (0, 0))) := ⟨bk BK580⟩
            have n2 : Aside0 ((w71.setCell ⟨gb589, 4, none⟩ (.int .i64 (wrap64 ((wrap64 (x590004_1 + 1)) + t610)))).heap[gb581]? = some (.cells #[.string a1, .slice Ao46 y592.length co46] 39 (0, 0))) := ⟨bk BK581⟩
            have n3 : Aside0 ((w71.setCell ⟨gb589, 4, none⟩ (.int .i64 (wrap64 ((wrap64 (x590004_1 + 1)) + t610)))).heap[gb589]? = some (.cells #[.int .i64 x590000_55, .int .i64 x590001_55, .int .i64 x590002_1, .int .i64 x590003_1, .int .i64 (wrap64 ((wrap64 (x590004_1 + 1)) + t610)), .int .i64 x590005_1] 26 (0, 0))) := ⟨bp BK589⟩
            have n4 : Aside0 (IsS90 w0 (w71.setCell ⟨gb589, 4, none⟩ (.int .i64 (wrap64 ((wrap64 (x590004_1 + 1)) + t610)))) g s0_0 t611) := ⟨by exact qi HI0⟩
            have n5 : Aside0 (KeepBut w (w71.setCell ⟨gb589, 4, none⟩ (.int .i64 (wrap64 ((wrap64 (x590004_1 + 1)) + t610)))) g none) := ⟨by exact qk _ _ _ HK⟩
            have n6 : Aside0 (Below w0.heap.size w0 (w71.setCell ⟨gb589, 4, none⟩ (.int .i64 (wrap64 ((wrap64 (x590004_1 + 1)) + t610))))) := ⟨by exact qb HI0 HB⟩
            (try clear HO_582001)
            (try clear BK580)
            (try clear BK581)
            (try clear BK589)
            (try clear HI0)
            (try clear HK)
            (try clear HB)
            generalize (w71.setCell ⟨gb589, 4, none⟩ (.int .i64 (wrap64 ((wrap64 (x590004_1 + 1)) + t610)))) = w73 at n0 n1 n2 n3 n4 n5 n6 ⊢
            have HO_582001 := n0
            have BK580 := n1
            have BK581 := n2
            have BK589 := n3
            have HI0 := n4
            have HK := n5
            have HB := n6
            clear n0 n1 n2 n3 n4 n5 n6
            have _ := ra (Kd.R_drew HO_582001.out)
            have _ := ra (blk_drew BK580.out)
            have _ := ra (blk_drew BK581.out)
            have _ := ra (blk_drew BK589.out)
            have _ := ra (IsS90.drew HI0.out)
            have _ := ra (keep_drew HK.out)
            have _ := ra (below_drew1 HB.out)
            clear HO_582001 BK580 BK581 BK589 HI0 HK HB
            rename_i HO_582001 BK580 BK581 BK589 HI0 HK HB
            refine start_ (n := 8) (S := fun w' => w'.cell? ⟨gb589, 0, none⟩ = some (.int .i64 x590000_55) ∧ w'.cell? ⟨gb589, 1, none⟩ = some (.int .i64 x590001_55) ∧ w'.cell? ⟨gb589, 2, none⟩ = some (.int .i64 x590002_1) ∧ w'.cell? ⟨gb589, 3, none⟩ = some (.int .i64 x590003_1) ∧ w'.cell? ⟨gb589, 4, none⟩ = some (.int .i64 (wrap64 ((wrap64 (x590004_1 + 1)) + t610))) ∧ w'.cell? ⟨gb589, 5, none⟩ = some (.int .i64 x590005_1)) (ds := [7]) #[false, false, false, false, false, false, false, false] (by kernel_rfl) rfl rfl ⟨(blk_cell BK589.out 0).trans rfl, (blk_cell BK589.out 1).trans rfl, (blk_cell BK589.out 2).trans rfl, (blk_cell BK589.out 3).trans rfl, (blk_cell BK589.out 4).trans rfl, (blk_cell BK589.out 5).trans rfl⟩ (fun hHeld => ?_); refine with_tabW spec_l2Tube.tab16 spec_l2Tube.bits16 (fun HT_ HW_ => ?_)
            generalize w73.drew = w74 at HO_582001 BK580 BK581 BK589 HI0 HK HB hHeld ⊢
            refine pu 0 64 (bl 8 1) ?_
            refine pu 3 67 (bl 8 9) ?_
            refine tk 1 65 (bl 8 11) ?_ hHeld
            refine pu 2 66 (bl 8 15) ?_
            refine oe 4 68 (bl 8 31) (fun K hK => ?_)
            refine gs Try.func65 #[.pointer (some ⟨g, 0, none⟩), .int .i64 6] ?_
            with_reducible refine (spec_l1Rd_pick.calls kj55 g s0_0 t611 6 t612 t613 w0 _ ?side1 ?side2 A64.out).mono ?_
            (case side1 => exact qi HI0)
            (case side2 => exact qb HI0 HB)
            rintro e w75 ⟨rfl, hi, hb, hk⟩
            refine ⟨_, rfl, ?_⟩
            have _ := ra (Kd.R_mono (Kd.R_keep (IsS90.apart (show IsS90 w0 _ g s0_0 t611 from qi HI0) (rq HO_582001) (by decide)) hk (fun _ h => h.2)) (fun _ h => h.1))
            have _ := kv hk (bk BK580) NB580_0
            have _ := kv hk (bk BK581) NB581_0
            have _ := kv hk (bk BK589) NB589_0
            have _ := ku (qk _ _ _ HK) hk
            have _ := ra (hb)
            have _ := ra (hi)
            clear HO_582001 BK580 BK581 BK589 HK HB HI0
            rename_i HO_582001 BK580 BK581 BK589 HK HB HI0
            (try clear hb)
            (try clear hb2)
            (try clear hk)
            (try clear hi)
            refine hK.out _ _ ⟨(blk_cell BK589.out 0).trans rfl, (blk_cell BK589.out 1).trans rfl, (blk_cell BK589.out 2).trans rfl, (blk_cell BK589.out 3).trans rfl, (blk_cell BK589.out 4).trans rfl, (blk_cell BK589.out 5).trans rfl⟩ (fun hHeld => ?_)
            clear hK K
            refine nm 68 ?_
            refine pu 5 69 (bl 8 63) ?_
            refine pu 6 70 (bl 8 127) ?_
            refine last_ (i := 7) (N := none) #[true, true, true, true, true, true, true, true] rfl rfl (one_of HT_.out (by kernel_rfl)) (by decide) (fun K hK => ?_)
            have hs76 : w75.cell? ⟨gb589, 5, none⟩ = some (.int .i64 x590005_1) := (blk_cell BK589.out 5).trans rfl
            have hfs76 := blk_frozen BK589.out 5
            have hns76_0 := NB580_589.out
            have hns76_1 := NB581_589.out
            have hms76_0 := NB589_580.out
            have hms76_1 := NB589_581.out
            refine skip_ (w1 := ?_) (by rfl) rfl ?_ ?_
            rotate_left
            ·go_simp
             rfl
            refine hK.out _ _ ?_
            clear hK K
            refine done_ (done_of HT_.out (by kernel_rfl)) ?_
            obtain ⟨hcz77_0, hcz77_1, hcz77_2, hcz77_3, hcz77_4, hcz77_5, hfz77_0, hfz77_1, hfz77_2, hfz77_3, hfz77_4, hfz77_5⟩ := zc6 BK589
            try go_wp2
            go_roundg kj55
            case measure => have := HK1.out; have := HJ36.out; have := HJ55.out; omega
            case rel => exact ⟨(wrap64 (x7_1 - 1)), (t613), (y592), (x590000_55), (x590001_55), (x590002_1), (x590003_1), (wrap64 ((wrap64 (x590004_1 + 1)) + t610)), (wrap64 ((wrap64 (x590004_1 + 1)) + t610)), (.slice Ao46 y592.length co46), rs, H', ⟨by have := HK1.out; have := HJ36.out; have := HJ55.out; omega⟩, ⟨by (with_reducible repeat (first | apply Kd.R_alloc | apply Kd.R_drewN | apply Kd.R_drew)); exact Kd.R_mono (rf (Kd.R_mono HO_582001.out (fun k_ hk => (⟨hk, hk⟩ : _ ∧ k_ ≠ gb589)))) (fun _ hk => hk.1)⟩, ⟨bk BK580⟩, ⟨bk BK581⟩, ⟨by (with_reducible repeat (first | refine blk_drewN ?_ _ | refine blk_drew ?_ | refine blk_alloc ?_ _)); refine blk_put (cs := #[.int .i64 x590000_55, .int .i64 x590001_55, .int .i64 x590002_1, .int .i64 x590003_1, .int .i64 (wrap64 ((wrap64 (x590004_1 + 1)) + t610)), .int .i64 (wrap64 ((wrap64 (x590005_1 + 1)) + t612))]) ?_ 5 _ rfl; (with_reducible repeat (first | refine blk_drewN ?_ _ | refine blk_drew ?_ | refine blk_alloc ?_ _)); refine blk_put (cs := #[.int .i64 x590000_55, .int .i64 x590001_55, .int .i64 x590002_1, .int .i64 x590003_1, .int .i64 (wrap64 ((wrap64 (x590004_1 + 1)) + t610)), .int .i64 x590005_1]) ?_ 5 _ rfl; (with_reducible repeat (first | refine blk_drewN ?_ _ | refine blk_drew ?_ | refine blk_alloc ?_ _)); exact BK589.out⟩, ⟨by exact qi HI0⟩, ⟨by exact qk _ _ _ HK⟩, ⟨by exact qb HI0 HB⟩⟩
           ·rw [if_neg c65] at H
            have c65b0 : decide ((wrap64 ((wrap64 (x590005_1 + 1)) + t612)) < (wrap64 ((wrap64 (x590004_1 + 1)) + t610))) = false := decide_eq_false c65
            clear c65
            have H' := Aside0.mk H
            clear H
            have hnb78 := NB589_580.out
            have hnc78 := NB580_589.out
            have hnb79 := NB589_581.out
            have hnc79 := NB581_589.out
            have hnb80 := NB589_0.out
            have hnc80 := NB0_589.out
            obtain ⟨hcz81_0, hcz81_1, hcz81_2, hcz81_3, hcz81_4, hcz81_5, hfz81_0, hfz81_1, hfz81_2, hfz81_3, hfz81_4, hfz81_5⟩ := zc6 BK589
            try go_wp2
            have _ := ra (Kd.R_drew HO_582001.out)
            have _ := ra (blk_drew BK580.out)
            have _ := ra (blk_drew BK581.out)
            have _ := ra (blk_drew BK589.out)
            have _ := ra (IsS90.drew HI0.out)
            have _ := ra (keep_drew HK.out)
            have _ := ra (below_drew1 HB.out)
            clear HO_582001 BK580 BK581 BK589 HI0 HK HB
            rename_i HO_582001 BK580 BK581 BK589 HI0 HK HB
            refine start_ (n := 8) (S := fun w' => w'.cell? ⟨gb589, 0, none⟩ = some (.int .i64 x590000_55) ∧ w'.cell? ⟨gb589, 1, none⟩ = some (.int .i64 x590001_55) ∧ w'.cell? ⟨gb589, 2, none⟩ = some (.int .i64 x590002_1) ∧ w'.cell? ⟨gb589, 3, none⟩ = some (.int .i64 x590003_1) ∧ w'.cell? ⟨gb589, 4, none⟩ = some (.int .i64 x590004_1) ∧ w'.cell? ⟨gb589, 5, none⟩ = some (.int .i64 x590005_1)) (ds := [7]) #[false, false, false, false, false, false, false, false] (by kernel_rfl) rfl rfl ⟨(blk_cell BK589.out 0).trans rfl, (blk_cell BK589.out 1).trans rfl, (blk_cell BK589.out 2).trans rfl, (blk_cell BK589.out 3).trans rfl, (blk_cell BK589.out 4).trans rfl, (blk_cell BK589.out 5).trans rfl⟩ (fun hHeld => ?_); refine with_tabW spec_l2Tube.tab15 spec_l2Tube.bits15 (fun HT_ HW_ => ?_)
            generalize wc.drew = w82 at HO_582001 BK580 BK581 BK589 HI0 HK HB hHeld ⊢
            refine pu 0 57 (bl 8 1) ?_
            refine pu 3 60 (bl 8 9) ?_
            refine tk 1 58 (bl 8 11) ?_ hHeld
            refine pu 2 59 (bl 8 15) ?_
            refine oe 4 61 (bl 8 31) (fun K hK => ?_)
            refine gs Try.func65 #[.pointer (some ⟨g, 0, none⟩), .int .i64 4] ?_
            with_reducible refine (spec_l1Rd_pick.calls kj55 g s0_0 t607 4 t610 t611 w0 _ ?side1 ?side2 A63.out).mono ?_
            (case side1 => exact qi HI0)
            (case side2 => exact qb HI0 HB)
            rintro e w83 ⟨rfl, hi, hb, hk⟩
            refine ⟨_, rfl, ?_⟩
            have _ := ra (Kd.R_mono (Kd.R_keep (IsS90.apart (show IsS90 w0 _ g s0_0 t607 from qi HI0) (rq HO_582001) (by decide)) hk (fun _ h => h.2)) (fun _ h => h.1))
            have _ := kv hk (bk BK580) NB580_0
            have _ := kv hk (bk BK581) NB581_0
            have _ := kv hk (bk BK589) NB589_0
            have _ := ku (qk _ _ _ HK) hk
            have _ := ra (hb)
            have _ := ra (hi)
            clear HO_582001 BK580 BK581 BK589 HK HB HI0
            rename_i HO_582001 BK580 BK581 BK589 HK HB HI0
            (try clear hb)
            (try clear hb2)
            (try clear hk)
            (try clear hi)
            refine hK.out _ _ ⟨(blk_cell BK589.out 0).trans rfl, (blk_cell BK589.out 1).trans rfl, (blk_cell BK589.out 2).trans rfl, (blk_cell BK589.out 3).trans rfl, (blk_cell BK589.out 4).trans rfl, (blk_cell BK589.out 5).trans rfl⟩ (fun hHeld => ?_)
            clear hK K
            refine nm 61 ?_
            refine pu 5 62 (bl 8 63) ?_
            refine pu 6 63 (bl 8 127) ?_
            refine last_ (i := 7) (N := none) #[true, true, true, true, true, true, true, true] rfl rfl (one_of HT_.out (by kernel_rfl)) (by decide) (fun K hK => ?_)
            have hs84 : w83.cell? ⟨gb589, 4, none⟩ = some (.int .i64 x590004_1) := (blk_cell BK589.out 4).trans rfl
            have hfs84 := blk_frozen BK589.out 4
            have hns84_0 := NB580_589.out
            have hns84_1 := NB581_589.out
            have hms84_0 := NB589_580.out
            have hms84_1 := NB589_581.out
            refine skip_ (w1 := ?_) (by rfl) rfl ?_ ?_
            rotate_left
            ·go_simp
             rfl
            refine hK.out _ _ ?_
            clear hK K
            refine done_ (done_of HT_.out (by kernel_rfl)) ?_
            try go_wp2
            have n0 : Aside0 (Kd.R k26 26 (w83.setCell ⟨gb589, 4, none⟩ (.int .i64 (wrap64 ((wrap64 (x590004_1 + 1)) + t610)))) w.heap.size (fun k_ => k_ ≠ gb589) (.slice Ao46 y592.length co46) y592) := ⟨by (with_reducible repeat (first | apply Kd.R_alloc | apply Kd.R_drewN | apply Kd.R_drew)); exact Kd.R_mono (rf (Kd.R_mono HO_582001.out (fun k_ hk => (⟨hk, hk⟩ : _ ∧ k_ ≠ gb589)))) (fun _ hk => hk.1)⟩
            have n1 : Aside0 ((w83.setCell ⟨gb589, 4, none⟩ (.int .i64 (wrap64 ((wrap64 (x590004_1 + 1)) + t610)))).heap[gb580]? = some (.cells #[.string (⟨#[]⟩ : ByteArray), .slice none 0 0] 39 (0, 0))) := ⟨bk BK580⟩
            have n2 : Aside0 ((w83.setCell ⟨gb589, 4, none⟩ (.int .i64 (wrap64 ((wrap64 (x590004_1 + 1)) + t610)))).heap[gb581]? = some (.cells #[.string a1, .slice Ao46 y592.length co46] 39 (0, 0))) := ⟨bk BK581⟩
            have n3 : Aside0 ((w83.setCell ⟨gb589, 4, none⟩ (.int .i64 (wrap64 ((wrap64 (x590004_1 + 1)) + t610)))).heap[gb589]? = some (.cells #[.int .i64 x590000_55, .int .i64 x590001_55, .int .i64 x590002_1, .int .i64 x590003_1, .int .i64 (wrap64 ((wrap64 (x590004_1 + 1)) + t610)), .int .i64 x590005_1] 26 (0, 0))) := ⟨bp BK589⟩
            have n4 : Aside0 (IsS90 w0 (w83.setCell ⟨gb589, 4, none⟩ (.int .i64 (wrap64 ((wrap64 (x590004_1 + 1)) + t610)))) g s0_0 t611) := ⟨by exact qi HI0⟩
            have n5 : Aside0 (KeepBut w (w83.setCell ⟨gb589, 4, none⟩ (.int .i64 (wrap64 ((wrap64 (x590004_1 + 1)) + t610)))) g none) := ⟨by exact qk _ _ _ HK⟩
            have n6 : Aside0 (Below w0.heap.size w0 (w83.setCell ⟨gb589, 4, none⟩ (.int .i64 (wrap64 ((wrap64 (x590004_1 + 1)) + t610))))) := ⟨by exact qb HI0 HB⟩
            (try clear HO_582001)
            (try clear BK580)
            (try clear BK581)
            (try clear BK589)
            (try clear HI0)
            (try clear HK)
            (try clear HB)
            generalize (w83.setCell ⟨gb589, 4, none⟩ (.int .i64 (wrap64 ((wrap64 (x590004_1 + 1)) + t610)))) = w85 at n0 n1 n2 n3 n4 n5 n6 ⊢
            have HO_582001 := n0
            have BK580 := n1
            have BK581 := n2
            have BK589 := n3
            have HI0 := n4
            have HK := n5
            have HB := n6
            clear n0 n1 n2 n3 n4 n5 n6
            have _ := ra (Kd.R_drew HO_582001.out)
            have _ := ra (blk_drew BK580.out)
            have _ := ra (blk_drew BK581.out)
            have _ := ra (blk_drew BK589.out)
            have _ := ra (IsS90.drew HI0.out)
            have _ := ra (keep_drew HK.out)
            have _ := ra (below_drew1 HB.out)
            clear HO_582001 BK580 BK581 BK589 HI0 HK HB
            rename_i HO_582001 BK580 BK581 BK589 HI0 HK HB
            refine start_ (n := 8) (S := fun w' => w'.cell? ⟨gb589, 0, none⟩ = some (.int .i64 x590000_55) ∧ w'.cell? ⟨gb589, 1, none⟩ = some (.int .i64 x590001_55) ∧ w'.cell? ⟨gb589, 2, none⟩ = some (.int .i64 x590002_1) ∧ w'.cell? ⟨gb589, 3, none⟩ = some (.int .i64 x590003_1) ∧ w'.cell? ⟨gb589, 4, none⟩ = some (.int .i64 (wrap64 ((wrap64 (x590004_1 + 1)) + t610))) ∧ w'.cell? ⟨gb589, 5, none⟩ = some (.int .i64 x590005_1)) (ds := [7]) #[false, false, false, false, false, false, false, false] (by kernel_rfl) rfl rfl ⟨(blk_cell BK589.out 0).trans rfl, (blk_cell BK589.out 1).trans rfl, (blk_cell BK589.out 2).trans rfl, (blk_cell BK589.out 3).trans rfl, (blk_cell BK589.out 4).trans rfl, (blk_cell BK589.out 5).trans rfl⟩ (fun hHeld => ?_); refine with_tabW spec_l2Tube.tab16 spec_l2Tube.bits16 (fun HT_ HW_ => ?_)
            generalize w85.drew = w86 at HO_582001 BK580 BK581 BK589 HI0 HK HB hHeld ⊢
            refine pu 0 64 (bl 8 1) ?_
            refine pu 3 67 (bl 8 9) ?_
            refine tk 1 65 (bl 8 11) ?_ hHeld
            refine pu 2 66 (bl 8 15) ?_
            refine oe 4 68 (bl 8 31) (fun K hK => ?_)
            refine gs Try.func65 #[.pointer (some ⟨g, 0, none⟩), .int .i64 6] ?_
            with_reducible refine (spec_l1Rd_pick.calls kj55 g s0_0 t611 6 t612 t613 w0 _ ?side1 ?side2 A64.out).mono ?_
            (case side1 => exact qi HI0)
            (case side2 => exact qb HI0 HB)
            rintro e w87 ⟨rfl, hi, hb, hk⟩
            refine ⟨_, rfl, ?_⟩
            have _ := ra (Kd.R_mono (Kd.R_keep (IsS90.apart (show IsS90 w0 _ g s0_0 t611 from qi HI0) (rq HO_582001) (by decide)) hk (fun _ h => h.2)) (fun _ h => h.1))
            have _ := kv hk (bk BK580) NB580_0
            have _ := kv hk (bk BK581) NB581_0
            have _ := kv hk (bk BK589) NB589_0
            have _ := ku (qk _ _ _ HK) hk
            have _ := ra (hb)
            have _ := ra (hi)
            clear HO_582001 BK580 BK581 BK589 HK HB HI0
            rename_i HO_582001 BK580 BK581 BK589 HK HB HI0
            (try clear hb)
            (try clear hb2)
            (try clear hk)
            (try clear hi)
            refine hK.out _ _ ⟨(blk_cell BK589.out 0).trans rfl, (blk_cell BK589.out 1).trans rfl, (blk_cell BK589.out 2).trans rfl, (blk_cell BK589.out 3).trans rfl, (blk_cell BK589.out 4).trans rfl, (blk_cell BK589.out 5).trans rfl⟩ (fun hHeld => ?_)
            clear hK K
            refine nm 68 ?_
            refine pu 5 69 (bl 8 63) ?_
            refine pu 6 70 (bl 8 127) ?_
            refine last_ (i := 7) (N := none) #[true, true, true, true, true, true, true, true] rfl rfl (one_of HT_.out (by kernel_rfl)) (by decide) (fun K hK => ?_)
            have hs88 : w87.cell? ⟨gb589, 5, none⟩ = some (.int .i64 x590005_1) := (blk_cell BK589.out 5).trans rfl
            have hfs88 := blk_frozen BK589.out 5
            have hns88_0 := NB580_589.out
            have hns88_1 := NB581_589.out
            have hms88_0 := NB589_580.out
            have hms88_1 := NB589_581.out
            refine skip_ (w1 := ?_) (by rfl) rfl ?_ ?_
            rotate_left
            ·go_simp
             rfl
            refine hK.out _ _ ?_
            clear hK K
            refine done_ (done_of HT_.out (by kernel_rfl)) ?_
            obtain ⟨hcz89_0, hcz89_1, hcz89_2, hcz89_3, hcz89_4, hcz89_5, hfz89_0, hfz89_1, hfz89_2, hfz89_3, hfz89_4, hfz89_5⟩ := zc6 BK589
            try go_wp2
            go_roundg kj55
            case measure => have := HK1.out; have := HJ36.out; have := HJ55.out; omega
            case rel => exact ⟨(wrap64 (x7_1 - 1)), (t613), (y592), (x590000_55), (x590001_55), (x590002_1), (x590003_1), (wrap64 ((wrap64 (x590004_1 + 1)) + t610)), (wrap64 ((wrap64 (x590005_1 + 1)) + t612)), (.slice Ao46 y592.length co46), rs, H', ⟨by have := HK1.out; have := HJ36.out; have := HJ55.out; omega⟩, ⟨by (with_reducible repeat (first | apply Kd.R_alloc | apply Kd.R_drewN | apply Kd.R_drew)); exact Kd.R_mono (rf (Kd.R_mono HO_582001.out (fun k_ hk => (⟨hk, hk⟩ : _ ∧ k_ ≠ gb589)))) (fun _ hk => hk.1)⟩, ⟨bk BK580⟩, ⟨bk BK581⟩, ⟨by (with_reducible repeat (first | refine blk_drewN ?_ _ | refine blk_drew ?_ | refine blk_alloc ?_ _)); refine blk_put (cs := #[.int .i64 x590000_55, .int .i64 x590001_55, .int .i64 x590002_1, .int .i64 x590003_1, .int .i64 (wrap64 ((wrap64 (x590004_1 + 1)) + t610)), .int .i64 x590005_1]) ?_ 5 _ rfl; (with_reducible repeat (first | refine blk_drewN ?_ _ | refine blk_drew ?_ | refine blk_alloc ?_ _)); exact BK589.out⟩, ⟨by exact qi HI0⟩, ⟨by exact qk _ _ _ HK⟩, ⟨by exact qb HI0 HB⟩⟩
          ·rw [if_neg c62] at H
           have c62b0 : decide ((wrap64 (x590005_1 + 20)) < 10000) = false := decide_eq_false c62
           clear c62
           have H' := Aside0.mk H
           clear H
           have hnb90 := NB589_580.out
           have hnc90 := NB580_589.out
           have hnb91 := NB589_581.out
           have hnc91 := NB581_589.out
           have hnb92 := NB589_0.out
           have hnc92 := NB0_589.out
           obtain ⟨hcz93_0, hcz93_1, hcz93_2, hcz93_3, hcz93_4, hcz93_5, hfz93_0, hfz93_1, hfz93_2, hfz93_3, hfz93_4, hfz93_5⟩ := zc6 BK589
           go_wp2
           go_roundg kj55
           case measure => have := HK1.out; have := HJ36.out; have := HJ55.out; omega
           case rel => exact ⟨(wrap64 (x7_1 - 1)), (t607), (y592), (x590000_55), (x590001_55), (x590002_1), (x590003_1), (x590004_1), (x590005_1), (.slice Ao46 y592.length co46), rs, H', ⟨by have := HK1.out; have := HJ36.out; have := HJ55.out; omega⟩, ⟨rq HO_582001⟩, ⟨bk BK580⟩, ⟨bk BK581⟩, ⟨bk BK589⟩, ⟨by exact qi HI0⟩, ⟨by exact qk _ _ _ HK⟩, ⟨by exact qb HI0 HB⟩⟩
    ·rw [if_neg c18] at H
     exact absurd H (by simp)
   ·rw [if_neg c17] at H
    have c17b0 : decide (0 < x7_1) = false := decide_eq_false c17
    clear c17
    obtain ⟨⟨t614, t615⟩, A94, H⟩ := bo H
    try dsimp only at H
    by_cases c95 : t614 = 0
    ·rw [if_pos c95] at H
     have c95b0 : (t614 == 0) = true := beq_iff_eq.mpr c95
     have c95b1 : (t614 != 0) = false := bne_eq_false_iff_eq.mpr c95
     clear c95
     have H' := Aside0.mk H
     clear H
     go_wp2_with (first | ((with_reducible refine gate_callee (f := 65) rfl ?_); refine gl (some 80) Try.func65 #[.pointer (some ⟨g, 0, none⟩), .int .i64 40] ?_; (with_reducible refine (spec_l1Rd_pick.calls k1 g s0_0 x1001_1 40 t614 t615 w0 _ ?side1 ?side2 A94.out).mono ?_); (case side1 => exact qi HI0); (case side2 => exact qb HI0 HB); rintro e w96 ⟨rfl, hi, hb, hk⟩; refine ⟨_, rfl, ?_⟩; have _ := ra (Kd.R_mono (Kd.R_keep (IsS90.apart (show IsS90 w0 _ g s0_0 x1001_1 from qi HI0) (rq HO_582001) (by decide)) hk (fun _ h => h.2)) (fun _ h => h.1)); have _ := kv hk (bk BK580) NB580_0; have _ := kv hk (bk BK581) NB581_0; have _ := kv hk (bk BK589) NB589_0; have _ := ku (qk _ _ _ HK) hk; have _ := ra (hb); have _ := ra (hi); clear HO_582001 BK580 BK581 BK589 HK HB HI0; rename_i HO_582001 BK580 BK581 BK589 HK HB HI0; (try clear hb); (try clear hb2); (try clear hk); (try clear hi)))
     go_loopg [] k1 (fun kq w' => ∃ (x1001_2 : Int) (x582001_2 : List (S26)) (u582001 : Value), Aside0 (spec_l2Tube.l1 kq s0_0 x1001_2 a1 x582001_2 = some (r1, r2, r3)) ∧ Aside0 (kq ≤ k1) ∧ Aside0 (Kd.R k26 26 w' w.heap.size (fun k_ => k_ ≠ gb589) u582001 x582001_2) ∧ Aside0 (w'.heap[gb580]? = some (.cells #[.string (⟨#[]⟩ : ByteArray), (.slice none 0 0)] 39 (0, 0))) ∧ Aside0 (w'.heap[gb581]? = some (.cells #[.string a1, u582001] 39 (0, 0))) ∧ Aside0 (w'.heap[gb589]? = some (.cells #[.int .i64 x590000_1, .int .i64 x590001_1, .int .i64 x590002_1, .int .i64 x590003_1, .int .i64 x590004_1, .int .i64 x590005_1] 26 (0, 0))) ∧ Aside0 (IsS90 w0 w' g s0_0 x1001_2) ∧ Aside0 (KeepBut w w' g none) ∧ Aside0 (Below w0.heap.size w0 w'))
     case atStart => exact ⟨(t615), (x582001_1), (u582001), H', ⟨Nat.le_refl _⟩, ⟨rq HO_582001⟩, ⟨bk BK580⟩, ⟨bk BK581⟩, ⟨bk BK589⟩, ⟨by exact qi HI0⟩, ⟨by exact qk _ _ _ HK⟩, ⟨by exact qb HI0 HB⟩⟩
     case round =>
      clear H'
      try clear c17
      try clear c17b0
      try clear c18
      try clear c62
      try clear c62b0
      try clear c65
      try clear c65b0
      try clear c95
      try clear c95b0
      try clear c95b1
      try clear hcz77_0
      try clear hcz77_1
      try clear hcz77_2
      try clear hcz77_3
      try clear hcz77_4
      try clear hcz77_5
      try clear hcz81_0
      try clear hcz81_1
      try clear hcz81_2
      try clear hcz81_3
      try clear hcz81_4
      try clear hcz81_5
      try clear hcz89_0
      try clear hcz89_1
      try clear hcz89_2
      try clear hcz89_3
      try clear hcz89_4
      try clear hcz89_5
      try clear hcz93_0
      try clear hcz93_1
      try clear hcz93_2
      try clear hcz93_3
      try clear hcz93_4
      try clear hcz93_5
      try clear hfz77_0
      try clear hfz77_1
      try clear hfz77_2
      try clear hfz77_3
      try clear hfz77_4
      try clear hfz77_5
      try clear hfz81_0
      try clear hfz81_1
      try clear hfz81_2
      try clear hfz81_3
      try clear hfz81_4
      try clear hfz81_5
      try clear hfz89_0
      try clear hfz89_1
      try clear hfz89_2
      try clear hfz89_3
      try clear hfz89_4
      try clear hfz89_5
      try clear hfz93_0
      try clear hfz93_1
      try clear hfz93_2
      try clear hfz93_3
      try clear hfz93_4
      try clear hfz93_5
      obtain ⟨x1001_2, x582001_2, u582001, HA, HK2, HO_582001, BK580, BK581, BK589, HI0, HK, HB⟩ := hrel
      cases gk with
      | zero => exact absurd HA.out (by simp [spec_l2Tube.l1])
      | succ k2 =>
       have H := HA.out
       clear HA
       simp only [spec_l2Tube.l1] at H
       obtain ⟨⟨t616, t617⟩, A97, H⟩ := bo H
       try dsimp only at H
       by_cases c98 : (x582001_2.length : Int) < (wrap64 (40 - t616))
       ·rw [if_pos c98] at H
        have c98b0 : decide ((x582001_2.length : Int) < (wrap64 (40 - t616))) = true := decide_eq_true c98
        clear c98
        obtain ⟨⟨t618, t619, t620, t621, t622, t623, t624⟩, A99, H⟩ := bo H
        try dsimp only at H
        by_cases c100 : x582001_2.length < 2932031007402
        ·rw [if_pos c100] at H
         have LMc100 := Aside0.mk c100
         clear c100
         obtain ⟨y625, hy_⟩ : ∃ y_ : List (S26), y_ = (x582001_2 ++ [(⟨t618, t619, t620, t621, t622, t623⟩ : S26)]) := ⟨_, rfl⟩
         replace H : (spec_l2Tube.l1 k2 s0_0 t624 a1 y625) = some (r1, r2, r3) := yh
         have Ny625 := ra hy_
         clear hy_
         have H' := Aside0.mk H
         clear H
         try go_wp2
         have _ := ra (Kd.R_drew HO_582001.out)
         have _ := ra (blk_drew BK580.out)
         have _ := ra (blk_drew BK581.out)
         have _ := ra (blk_drew BK589.out)
         have _ := ra (IsS90.drew HI0.out)
         have _ := ra (keep_drew HK.out)
         have _ := ra (below_drew1 HB.out)
         clear HO_582001 BK580 BK581 BK589 HI0 HK HB
         rename_i HO_582001 BK580 BK581 BK589 HI0 HK HB
         obtain ⟨Ao102, co102, eo102⟩ := Kd.R_slice HO_582001.out
         (first | subst eo102 | (injection eo102 with f1_ f2_ f3_; have f4_ := f1_.symm; have f5_ := f3_.symm; clear f1_ f2_ f3_; subst f4_; subst f5_))
         refine start_ (n := 7) (S := fun w' => w'.cell? ⟨gb581, 0, none⟩ = some (.string a1) ∧ w'.cell? ⟨gb581, 1, none⟩ = some (.slice Ao102 x582001_2.length co102)) (ds := []) (bl 7 0) (by kernel_rfl) rfl rfl ⟨(blk_cell BK581.out 0).trans rfl, (blk_cell BK581.out 1).trans rfl⟩ (fun hHeld => ?_)
         generalize wr.drew = w101 at HO_582001 BK580 BK581 BK589 HI0 HK HB hHeld ⊢
         refine pu 0 82 (bl 7 1) ?_
         refine pu 3 85 (bl 7 9) ?_
         refine tk 1 83 (bl 7 11) ?_ hHeld
         refine pu 2 84 (bl 7 15) ?_
         refine oe 4 86 (bl 7 31) (fun K hK => ?_)
         refine gs Try.func65 #[.pointer (some ⟨g, 0, none⟩), .int .i64 2] ?_
         with_reducible refine (spec_l1Rd_pick.calls k2 g s0_0 x1001_2 2 t616 t617 w0 _ ?side1 ?side2 A97.out).mono ?_
         (case side1 => exact qi HI0)
         (case side2 => exact qb HI0 HB)
         rintro e w103 ⟨rfl, hi, hb, hk⟩
         refine ⟨_, rfl, ?_⟩
         have _ := ra (Kd.R_mono (Kd.R_keep (IsS90.apart (show IsS90 w0 _ g s0_0 x1001_2 from qi HI0) (rq HO_582001) (by decide)) hk (fun _ h => h.2)) (fun _ h => h.1))
         have _ := kv hk (bk BK580) NB580_0
         have _ := kv hk (bk BK581) NB581_0
         have _ := kv hk (bk BK589) NB589_0
         have _ := ku (qk _ _ _ HK) hk
         have _ := ra (hb)
         have _ := ra (hi)
         clear HO_582001 BK580 BK581 BK589 HK HB HI0
         rename_i HO_582001 BK580 BK581 BK589 HK HB HI0
         (try clear hb)
         (try clear hb2)
         (try clear hk)
         (try clear hi)
         refine hK.out _ _ ⟨(blk_cell BK581.out 0).trans rfl, (blk_cell BK581.out 1).trans rfl⟩ (fun hHeld => ?_)
         clear hK K
         refine nm 86 ?_
         refine pu 5 87 (bl 7 63) ?_
         refine pu 6 88 (bl 7 127) ?_
         refine done_ (by kernel_rfl) ?_
         try go_wp2
         have _ := ra (Kd.R_drew HO_582001.out)
         have _ := ra (blk_drew BK580.out)
         have _ := ra (blk_drew BK581.out)
         have _ := ra (blk_drew BK589.out)
         have _ := ra (IsS90.drew HI0.out)
         have _ := ra (keep_drew HK.out)
         have _ := ra (below_drew1 HB.out)
         clear HO_582001 BK580 BK581 BK589 HI0 HK HB
         rename_i HO_582001 BK580 BK581 BK589 HI0 HK HB
         refine start_ (n := 8) (S := fun w' => w'.cell? ⟨gb581, 0, none⟩ = some (.string a1) ∧ w'.cell? ⟨gb581, 1, none⟩ = some (.slice Ao102 x582001_2.length co102)) (ds := [7]) #[false, false, false, false, false, false, false, false] (by kernel_rfl) rfl rfl ⟨(blk_cell BK581.out 0).trans rfl, (blk_cell BK581.out 1).trans rfl⟩ (fun hHeld => ?_); refine with_tabW spec_l2Tube.tab21 spec_l2Tube.bits21 (fun HT_ HW_ => ?_)
         generalize w103.drew = w104 at HO_582001 BK580 BK581 BK589 HI0 HK HB hHeld ⊢
         refine pu 0 89 (bl 8 1) ?_
         refine pu 2 91 (bl 8 5) ?_
         refine tk 1 90 (bl 8 7) ?_ hHeld
         refine oe 3 92 (bl 8 15) (fun K hK => ?_)
         refine gs Try.func68 #[.pointer (some ⟨g, 0, none⟩)] ?_
         with_reducible refine (spec_l1DrawBox.calls k2 g s0_0 t617 t618 t619 t620 t621 t622 t623 t624 w0 _ ?side1 ?side2 A99.out).mono ?_
         (case side1 => exact qi HI0)
         (case side2 => exact qb HI0 HB)
         rintro e w105 ⟨rfl, hi, hb, hk⟩
         refine ⟨_, rfl, ?_⟩
         have _ := ra (Kd.R_mono (Kd.R_keep (IsS90.apart (show IsS90 w0 _ g s0_0 t617 from qi HI0) (rq HO_582001) (by decide)) hk (fun _ h => h.2)) (fun _ h => h.1))
         have _ := kv hk (bk BK580) NB580_0
         have _ := kv hk (bk BK581) NB581_0
         have _ := kv hk (bk BK589) NB589_0
         have _ := ku (qk _ _ _ HK) hk
         have _ := ra (hb)
         have _ := ra (hi)
         clear HO_582001 BK580 BK581 BK589 HK HB HI0
         rename_i HO_582001 BK580 BK581 BK589 HK HB HI0
         (try clear hb)
         (try clear hb2)
         (try clear hk)
         (try clear hi)
         refine hK.out _ _ ⟨(blk_cell BK581.out 0).trans rfl, (blk_cell BK581.out 1).trans rfl⟩ (fun hHeld => ?_)
         clear hK K
         refine nm 92 ?_
         refine oe 4 93 (bl 8 31) (fun K hK => ?_)
         refine value_ (w1 := ?_) (v := ?_) (by rfl) rfl ?_ ?_
         rotate_left 2
         ·go_simp
          constructor
          ·rfl
          ·rfl
         refine hK.out _ _ ⟨(blk_cell (blk_alloc BK581.out _) 0).trans rfl, (blk_cell (blk_alloc BK581.out _) 1).trans rfl⟩ (fun hHeld => ?_)
         clear hK K
         refine nm 93 ?_
         refine oe 5 94 (bl 8 63) (fun K hK => ?_)
         refine Kd.R_append_step k26 w.heap.size (by rfl) (.tmp 90) (.tmp 93) 37 26 (.agg #[(.int .i64 0), (.int .i64 0), (.int .i64 0), (.int .i64 0), (.int .i64 0), (.int .i64 0)]) 48 rfl Try.underlying37 info26 rfl (by decide) (by omega) (.slice Ao102 x582001_2.length co102) x582001_2 (⟨t618, t619, t620, t621, t622, t623⟩ : S26) [.int .i64 t618, .int .i64 t619, .int .i64 t620, .int .i64 t621, .int .i64 t622, .int .i64 t623] (fun k_ => k_ ≠ gb589) (fun _ => False) rfl rfl ?aP (fun _ hk => hk.elim) ?aF ?aO (Below.refl _ _) ?aS ?aL ?_
         (case aP => exact k26_mkM _ _ _ (⟨t618, t619, t620, t621, t622, t623⟩ : S26))
         (case aF => exact (fun k_ hk => Kd.freshB (g := gb589) (o := .cells #[.int .i64 x590000_1, .int .i64 x590001_1, .int .i64 x590002_1, .int .i64 x590003_1, .int .i64 x590004_1, .int .i64 x590005_1] 26 (0, 0)) (bk BK589) k_ hk))
         (case aO => exact (rq HO_582001))
         (case aS => exact (keep_size (w := w) (g := g) (row := none) (qk _ _ _ HK)))
         (case aL => have := LMc100.out; omega)
         intro v626 w106 ho hb hg hat
         rw [← Ny625.out] at ho
         have _ := ra (blk_grown (g := gb580) (o := .cells #[.string (⟨#[]⟩ : ByteArray), .slice none 0 0] 39 (0, 0)) (bk BK580) hg (Kd.R_ne HO_582001.out BK580.out (by decide)))
         have _ := ra (blk_grown (g := gb581) (o := .cells #[.string a1, .slice Ao102 x582001_2.length co102] 39 (0, 0)) (bk BK581) hg (Kd.R_ne HO_582001.out BK581.out (by decide)))
         have _ := ra (blk_grown (g := gb589) (o := .cells #[.int .i64 x590000_1, .int .i64 x590001_1, .int .i64 x590002_1, .int .i64 x590003_1, .int .i64 x590004_1, .int .i64 x590005_1] 26 (0, 0)) (bk BK589) hg (Kd.R_away HO_582001.out (fun _ hk => hk)))
         have _ := ra (IsS90.grown (qi HI0) hg (IsS90.own_ne HI0.out HO_582001.out (by decide)))
         have _ := ra (below_weaken (qb HI0 HB) HL.out hb)
         have _ := ra (KeepBut.trans (qk _ _ _ HK) (KeepBut.of_grown hg g) (Kd.R_base2 HO_582001.out))
         have _ := ra (ho)
         clear BK580 BK581 BK589 HI0 HB HK HO_582001
         rename_i BK580 BK581 BK589 HI0 HB HK HO627
         clear ho hb hg hat
         obtain ⟨Ao107, co107, eo107⟩ := Kd.R_slice HO627.out
         (first | subst eo107 | (injection eo107 with f1_ f2_ f3_; have f4_ := f1_.symm; have f5_ := f3_.symm; clear f1_ f2_ f3_; subst f4_; subst f5_))
         refine hK.out _ _ ⟨(blk_cell BK581.out 0).trans rfl, (blk_cell BK581.out 1).trans rfl⟩ (fun hHeld => ?_)
         clear hK K
         refine nm 94 ?_
         refine pu 6 95 (bl 8 127) ?_
         refine last_ (i := 7) (N := none) #[true, true, true, true, true, true, true, true] rfl rfl (one_of HT_.out (by kernel_rfl)) (by decide) (fun K hK => ?_)
         have hs108 : w106.cell? ⟨gb581, 1, none⟩ = some (.slice Ao102 x582001_2.length co102) := (blk_cell BK581.out 1).trans rfl
         have hfs108 := blk_frozen BK581.out 1
         have hns108_0 := NB580_581.out
         have hns108_2 := NB589_581.out
         have hms108_0 := NB581_580.out
         have hms108_2 := NB581_589.out
         refine skip_ (w1 := ?_) (by rfl) rfl ?_ ?_
         rotate_left
         ·go_simp
          rfl
         refine hK.out _ _ ?_
         clear hK K
         refine done_ (done_of HT_.out (by kernel_rfl)) ?_
         try go_wp2
         go_roundg k2
         case measure => have := HK1.out; have := HK2.out; omega
         case rel => exact ⟨(t624), (y625), (.slice Ao107 y625.length co107), H', ⟨by have := HK1.out; have := HK2.out; omega⟩, ⟨by (with_reducible repeat (first | apply Kd.R_alloc | apply Kd.R_drewN | apply Kd.R_drew)); exact Kd.R_mono (rf (Kd.R_types HO627.out BK581.out (by decide))) (fun _ hk => hk.1)⟩, ⟨bk BK580⟩, ⟨bp BK581⟩, ⟨bk BK589⟩, ⟨by exact qi HI0⟩, ⟨by exact qk _ _ _ HK⟩, ⟨by exact qb HI0 HB⟩⟩
        ·rw [if_neg c100] at H
         exact absurd H (by simp)
       ·rw [if_neg c98] at H
        have c98b0 : decide ((x582001_2.length : Int) < (wrap64 (40 - t616))) = false := decide_eq_false c98
        clear c98
        simp only [Option.some.injEq, Prod.mk.injEq] at H
        obtain ⟨rfl, rfl, rfl⟩ := H
        try go_wp2
        have _ := ra (Kd.R_drew HO_582001.out)
        have _ := ra (blk_drew BK580.out)
        have _ := ra (blk_drew BK581.out)
        have _ := ra (blk_drew BK589.out)
        have _ := ra (IsS90.drew HI0.out)
        have _ := ra (keep_drew HK.out)
        have _ := ra (below_drew1 HB.out)
        clear HO_582001 BK580 BK581 BK589 HI0 HK HB
        rename_i HO_582001 BK580 BK581 BK589 HI0 HK HB
        obtain ⟨Ao110, co110, eo110⟩ := Kd.R_slice HO_582001.out
        (first | subst eo110 | (injection eo110 with f1_ f2_ f3_; have f4_ := f1_.symm; have f5_ := f3_.symm; clear f1_ f2_ f3_; subst f4_; subst f5_))
        refine start_ (n := 7) (S := fun w' => w'.cell? ⟨gb581, 0, none⟩ = some (.string a1) ∧ w'.cell? ⟨gb581, 1, none⟩ = some (.slice Ao110 x582001_2.length co110)) (ds := []) (bl 7 0) (by kernel_rfl) rfl rfl ⟨(blk_cell BK581.out 0).trans rfl, (blk_cell BK581.out 1).trans rfl⟩ (fun hHeld => ?_)
        generalize wr.drew = w109 at HO_582001 BK580 BK581 BK589 HI0 HK HB hHeld ⊢
        refine pu 0 82 (bl 7 1) ?_
        refine pu 3 85 (bl 7 9) ?_
        refine tk 1 83 (bl 7 11) ?_ hHeld
        refine pu 2 84 (bl 7 15) ?_
        refine oe 4 86 (bl 7 31) (fun K hK => ?_)
        refine gs Try.func65 #[.pointer (some ⟨g, 0, none⟩), .int .i64 2] ?_
        with_reducible refine (spec_l1Rd_pick.calls k2 g s0_0 x1001_2 2 t616 t617 w0 _ ?side1 ?side2 A97.out).mono ?_
        (case side1 => exact qi HI0)
        (case side2 => exact qb HI0 HB)
        rintro e w111 ⟨rfl, hi, hb, hk⟩
        refine ⟨_, rfl, ?_⟩
        have _ := ra (Kd.R_mono (Kd.R_keep (IsS90.apart (show IsS90 w0 _ g s0_0 x1001_2 from qi HI0) (rq HO_582001) (by decide)) hk (fun _ h => h.2)) (fun _ h => h.1))
        have _ := kv hk (bk BK580) NB580_0
        have _ := kv hk (bk BK581) NB581_0
        have _ := kv hk (bk BK589) NB589_0
        have _ := ku (qk _ _ _ HK) hk
        have _ := ra (hb)
        have _ := ra (hi)
        clear HO_582001 BK580 BK581 BK589 HK HB HI0
        rename_i HO_582001 BK580 BK581 BK589 HK HB HI0
        (try clear hb)
        (try clear hb2)
        (try clear hk)
        (try clear hi)
        refine hK.out _ _ ⟨(blk_cell BK581.out 0).trans rfl, (blk_cell BK581.out 1).trans rfl⟩ (fun hHeld => ?_)
        clear hK K
        refine nm 86 ?_
        refine pu 5 87 (bl 7 63) ?_
        refine pu 6 88 (bl 7 127) ?_
        refine done_ (by kernel_rfl) ?_
        have hnb112 := NB581_580.out
        have hnc112 := NB580_581.out
        have hnb113 := NB581_589.out
        have hnc113 := NB589_581.out
        have hnb114 := NB581_0.out
        have hnc114 := NB0_581.out
        obtain ⟨hcz115_0, hcz115_1, hfz115_0, hfz115_1⟩ := zc2 BK581
        have hnb116 := NB580_589.out
        have hnc116 := NB589_580.out
        have hnb117 := NB580_0.out
        have hnc117 := NB0_580.out
        obtain ⟨hcz118_0, hcz118_1, hfz118_0, hfz118_1⟩ := zc2 BK580
        try go_wp2
        refine bodyPost_ret (results_cell_row rfl _ _ gb580 39 #[.string a1, .slice Ao110 x582001_2.length co110] (0, 0) _ rfl (bp BK580) Try.underlying39 rfl (by kernel_rfl)) rfl ?_
        exact ⟨_, re, by (with_reducible repeat (first | apply Kd.R_alloc | apply Kd.R_drewN | apply Kd.R_drew)); exact Kd.R_mono (rf (Kd.R_types HO_582001.out BK580.out (by decide))) (fun _ hk => trivial), by exact qi HI0, by exact qb HI0 HB, by exact qk _ _ _ HK⟩
    ·rw [if_neg c95] at H
     have c95b0 : (t614 == 0) = false := beq_eq_false_iff_ne.mpr c95
     have c95b1 : (t614 != 0) = true := bne_iff_ne.mpr c95
     simp only [Option.some.injEq, Prod.mk.injEq] at H
     obtain ⟨rfl, rfl, rfl⟩ := H
     go_wp2_with (first | ((with_reducible refine gate_callee (f := 65) rfl ?_); refine gl (some 80) Try.func65 #[.pointer (some ⟨g, 0, none⟩), .int .i64 40] ?_; (with_reducible refine (spec_l1Rd_pick.calls k1 g s0_0 x1001_1 40 t614 t615 w0 _ ?side1 ?side2 A94.out).mono ?_); (case side1 => exact qi HI0); (case side2 => exact qb HI0 HB); rintro e w119 ⟨rfl, hi, hb, hk⟩; refine ⟨_, rfl, ?_⟩; have _ := ra (Kd.R_mono (Kd.R_keep (IsS90.apart (show IsS90 w0 _ g s0_0 x1001_1 from qi HI0) (rq HO_582001) (by decide)) hk (fun _ h => h.2)) (fun _ h => h.1)); have _ := kv hk (bk BK580) NB580_0; have _ := kv hk (bk BK581) NB581_0; have _ := kv hk (bk BK589) NB589_0; have _ := ku (qk _ _ _ HK) hk; have _ := ra (hb); have _ := ra (hi); clear HO_582001 BK580 BK581 BK589 HK HB HI0; rename_i HO_582001 BK580 BK581 BK589 HK HB HI0; (try clear hb); (try clear hb2); (try clear hk); (try clear hi); have hnb120 := NB581_580.out; have hnc120 := NB580_581.out; have hnb121 := NB581_589.out; have hnc121 := NB589_581.out; have hnb122 := NB581_0.out; have hnc122 := NB0_581.out; obtain ⟨hcz123_0, hcz123_1, hfz123_0, hfz123_1⟩ := zc2 BK581; have hnb124 := NB580_589.out; have hnc124 := NB589_580.out; have hnb125 := NB580_0.out; have hnc125 := NB0_580.out; obtain ⟨hcz126_0, hcz126_1, hfz126_0, hfz126_1⟩ := zc2 BK580; obtain ⟨Ao127, co127, eo127⟩ := Kd.R_slice HO_582001.out; subst eo127))
     refine bodyPost_ret (results_cell_row rfl _ _ gb580 39 #[.string a1, .slice Ao127 x582001_1.length co127] (0, 0) _ rfl (bp BK580) Try.underlying39 rfl (by kernel_rfl)) rfl ?_
     exact ⟨_, re, by (with_reducible repeat (first | apply Kd.R_alloc | apply Kd.R_drewN | apply Kd.R_drew)); exact Kd.R_mono (rf (Kd.R_types HO_582001.out BK580.out (by decide))) (fun _ hk => trivial), by exact qi HI0, by exact qb HI0 HB, by exact qk _ _ _ HK⟩
def spec_l2SpoilTube.T5 : Bool × List (List Nat × List Nat) := (true, [([], []), ([0], [0]), ([], []), ([], []), ([], []), ([4], [4]), ([], []), ([5, 6], [5, 6]), ([7], [7]), ([3, 8], [3, 8]), ([1, 2, 0, 1, 2, 3, 4, 5, 6, 7, 8, 9], [1, 2]), ([10, 9, 9, 0, 1, 2, 3, 4, 5, 6, 7, 8, 9], [9, 10])])
def spec_l2SpoilTube.B5 : List Nat := [0, 1, 0, 0, 0, 16, 0, 112, 240, 504, 1023, 2047]
theorem spec_l2SpoilTube.tab5 : rtab .any (opsOf Try.f73 5) = spec_l2SpoilTube.T5 := by kernel_rfl
theorem spec_l2SpoilTube.bits5 : waitsOk spec_l2SpoilTube.T5.2 spec_l2SpoilTube.B5 = true := by kernel_rfl
def spec_l2SpoilTube.T11 : Bool × List (List Nat × List Nat) := (true, [([], []), ([0], [0]), ([], []), ([2], [2]), ([3], [3]), ([1, 4, 3], [1, 4]), ([0, 1, 2, 3, 4, 5], []), ([6, 5, 5, 0, 1, 2, 3, 4, 5], [5, 6])])
def spec_l2SpoilTube.B11 : List Nat := [0, 1, 0, 4, 12, 31, 63, 127]
theorem spec_l2SpoilTube.tab11 : rtab .any (opsOf Try.f73 11) = spec_l2SpoilTube.T11 := by kernel_rfl
theorem spec_l2SpoilTube.bits11 : waitsOk spec_l2SpoilTube.T11.2 spec_l2SpoilTube.B11 = true := by kernel_rfl
set_option maxHeartbeats 8000000 in
set_option maxRecDepth 100000 in
theorem spec_l2SpoilTube.calls (k : Nat) (g : Nat) (s0_0 : List Int) (s0_1 : Int) (a1_0 : ByteArray) (A1_1 : Option Addr) (c1_1 : Nat) (l1_1 : List (S26)) (r1 : ByteArray) (r2 : List (S26)) (r3 : Int) (w0 w : World) (hI : IsS90 w0 w g s0_0 s0_1) (hB : Below w0.heap.size w0 w) (hr1_1 : ∀ W_, KeepBut w W_ g none → Kd.C k26 W_ A1_1 l1_1.length l1_1) (hc1_1 : l1_1.length ≤ c1_1) (h : spec_l2SpoilTube.f k s0_0 s0_1 a1_0 l1_1 = some (r1, r2, r3)) :
  Calls Try.prog 73 #[.pointer (some ⟨g, 0, none⟩), .agg #[.string a1_0, .slice A1_1 l1_1.length c1_1]] w fun e w' => ∃ v1_ : Value, e = .returned (.agg #[.string r1, v1_]) ∧ Kd.R k26 26 w' w.heap.size (fun _ => True) v1_ r2 ∧ IsS90 w0 w' g s0_0 r3 ∧ Below w0.heap.size w0 w' ∧ KeepBut w w' g none := by
 have hu39 := Try.underlying39
 have hu26 := Try.underlying26
 have HR1_1 := Aside0.mk hr1_1
 have HC1_1 := Aside0.mk hc1_1
 clear hr1_1 hc1_1
 have HI0 := Aside0.mk hI
 have HK := ra (KeepBut.refl w g none)
 have HL := Aside0.mk hB.size
 clear hI
 have HW0 := Aside0.mk hB.size
 have HB := Aside0.mk hB
 clear hB
 have H : ((spec_l2Copy.f a1_0 l1_1).bind fun bt681 => ((spec_l1Rd_pick.f k s0_0 s0_1 4).bind fun bt686 => (if bt686.1 = 0 then ((spec_l1Rd_pick.f k s0_0 bt686.2 2).bind fun bt688 => ((spec_l1Many.f k (⟨#[110]⟩ : ByteArray) (wrap64 (8 + bt688.1))).bind fun t690 => ((spec_l1Rd_of.f k s0_0 bt688.2 (([(⟨#[]⟩ : ByteArray), (⟨#[65]⟩ : ByteArray), t690] : List ByteArray))).bind fun bt694 => (some (bt694.1, bt681.2, bt694.2))))) else (if bt686.1 = 1 then ((spec_l1Rd_pick.f k s0_0 bt686.2 2).bind fun bt696 => (spec_l2SpoilTube.l0 k (wrap64 (40 + bt696.1)) s0_0 bt696.2 bt681.1 bt681.2)) else (if (bt681.2.length : Int) > 0 then ((spec_l1Rd_pick.f k s0_0 bt686.2 (bt681.2.length : Int)).bind fun bt708 => (if 0 ≤ bt708.1 then (if bt708.1 < (bt681.2.length : Int) then ((spec_l1SpoilBox.f k s0_0 bt708.2 ((rd_T26 bt681.2 bt708.1).f0) ((rd_T26 bt681.2 bt708.1).f1) ((rd_T26 bt681.2 bt708.1).f2) ((rd_T26 bt681.2 bt708.1).f3) ((rd_T26 bt681.2 bt708.1).f4) ((rd_T26 bt681.2 bt708.1).f5)).bind fun bt711 => (some (bt681.1, (bt681.2.set (bt708.1 : Int).toNat (⟨bt711.1, bt711.2.1, bt711.2.2.1, bt711.2.2.2.1, bt711.2.2.2.2.1, bt711.2.2.2.2.2.1⟩ : S26)), bt711.2.2.2.2.2.2))) else (none)) else (none))) else (some (bt681.1, bt681.2, bt686.2))))))) = some (r1, r2, r3) := h
 clear h
 obtain ⟨⟨t681, t682⟩, A3, H⟩ := bo H
 try dsimp only at H
 obtain ⟨⟨t686, t687⟩, A4, H⟩ := bo H
 try dsimp only at H
 by_cases c5 : t686 = 0
 ·rw [if_pos c5] at H
  have c5b0 : (t686 == 0) = true := beq_iff_eq.mpr c5
  have c5b1 : (t686 != 0) = false := bne_eq_false_iff_eq.mpr c5
  clear c5
  obtain ⟨⟨t688, t689⟩, A6, H⟩ := bo H
  try dsimp only at H
  obtain ⟨t690, A7, H⟩ := bo H
  obtain ⟨y691, hy_⟩ : ∃ y_ : List ByteArray, y_ = (([(⟨#[]⟩ : ByteArray), (⟨#[65]⟩ : ByteArray), t690] : List ByteArray)) := ⟨_, rfl⟩
  replace H : ((spec_l1Rd_of.f k s0_0 t689 y691).bind fun bt694 => (some (bt694.1, t682, bt694.2))) = some (r1, r2, r3) := yh
  have Ny691 := ra hy_
  clear hy_
  obtain ⟨⟨t694, t695⟩, A8, H⟩ := bo H
  try dsimp only at H
  simp only [Option.some.injEq, Prod.mk.injEq] at H
  obtain ⟨rfl, rfl, rfl⟩ := H
  go_enter Try.func73, Try.ntmps73
  go_wp2_with (first | ((with_reducible refine gate_dst (N := 3) rfl ?_); refine be 3 #[.string a1_0, .slice A1_1 l1_1.length c1_1] 39 ?_; intro gb679 hg w9 hbox hb; have _ := ra (IsS90.below (qi HI0) hb); have _ := kt (qk _ _ _ HK) hb; have _ := ra (below_step (qb HI0 HB) hb); have _ := ra (hbox); have _ := ns hg (qk w _ g HK); have _ := nt hg HW0 (qk w _ g HK); have _ := nl hg (qi HI0); have _ := nr hg (qi HI0); clear HI0 HK HB; rename_i HI0 HK HB BK679 GW679 GE679 NB0_679 NB679_0; clear hb hbox hg) | ((with_reducible refine gate_dst (N := 4) rfl ?_); refine be 4 #[.string (⟨#[]⟩ : ByteArray), .slice none 0 0] 39 ?_; intro gb680 hg w10 hbox hb; have _ := ra (IsS90.below (qi HI0) hb); have _ := bb (bk BK679) hb; have _ := kt (qk _ _ _ HK) hb; have _ := ra (below_step (qb HI0 HB) hb); have _ := ra (hbox); have _ := ns hg (qk w _ g HK); have _ := nt hg HW0 (qk w _ g HK); have _ := bn hg (bk BK679); have _ := bm hg (bk BK679); have _ := nl hg (qi HI0); have _ := nr hg (qi HI0); clear HI0 BK679 HK HB; rename_i HI0 BK679 HK HB BK680 GW680 GE680 NB679_680 NB680_679 NB0_680 NB680_0; clear hb hbox hg; have hnb11 := NB679_680.out; have hnc11 := NB680_679.out; have hnb12 := NB679_0.out; have hnc12 := NB0_679.out; obtain ⟨hcz13_0, hcz13_1, hfz13_0, hfz13_1⟩ := zc2 BK679) | ((with_reducible refine gate_callee (f := 67) rfl ?_); refine gl (some 9) Try.func67 #[.agg #[.string a1_0, .slice A1_1 l1_1.length c1_1]] ?_; (with_reducible refine (spec_l2Copy.calls a1_0 _ _ l1_1 t681 t682 _ ?side1 ?side2 A3.out).mono ?_); (case side1 => exact Kd.C_foot_now HR1_1.out (qk _ _ _ HK)); (case side2 => exact HC1_1.out); rintro e w14 ⟨v683, rfl, ho0, hb⟩; refine ⟨_, rfl, ?_⟩; have _ := ra (Kd.R_lower ho0 (keep_size (w := w) (g := g) (row := none) (qk _ _ _ HK))); have _ := ra (IsS90.below (qi HI0) hb); have _ := bb (bk BK679) hb; have _ := bb (bk BK680) hb; have _ := kt (qk _ _ _ HK) hb; have _ := ra (below_step (qb HI0 HB) hb); clear HI0 BK679 BK680 HK HB; rename_i HO684 HI0 BK679 BK680 HK HB; (try clear hb); (try clear hb2); (try clear hk); (try clear hi); (try clear ho0)) | ((with_reducible refine gate_dst (N := 5) rfl ?_); refine be 5 #[.string (⟨#[]⟩ : ByteArray), .slice none 0 0] 39 ?_; intro gb685 hg w15 hbox hb; have _ := ra (Kd.R_below (rq HO684) hb); have _ := ra (IsS90.below (qi HI0) hb); have _ := bb (bk BK679) hb; have _ := bb (bk BK680) hb; have _ := kt (qk _ _ _ HK) hb; have _ := ra (below_step (qb HI0 HB) hb); have _ := ra (hbox); have _ := ns hg (qk w _ g HK); have _ := nt hg HW0 (qk w _ g HK); have _ := bn hg (bk BK679); have _ := bm hg (bk BK679); have _ := bn hg (bk BK680); have _ := bm hg (bk BK680); have _ := nl hg (qi HI0); have _ := nr hg (qi HI0); clear HO684 HI0 BK679 BK680 HK HB; rename_i HO684 HI0 BK679 BK680 HK HB BK685 GW685 GE685 NB679_685 NB685_679 NB680_685 NB685_680 NB0_685 NB685_0; clear hb hbox hg; have hnb16 := NB685_679.out; have hnc16 := NB679_685.out; have hnb17 := NB685_680.out; have hnc17 := NB680_685.out; have hnb18 := NB685_0.out; have hnc18 := NB0_685.out; obtain ⟨hcz19_0, hcz19_1, hfz19_0, hfz19_1⟩ := zc2 BK685; obtain ⟨Ao20, co20, eo20⟩ := Kd.R_slice HO684.out; subst eo20) | ((with_reducible refine gate_callee (f := 65) rfl ?_); refine gl (some 11) Try.func65 #[.pointer (some ⟨g, 0, none⟩), .int .i64 4] ?_; (with_reducible refine (spec_l1Rd_pick.calls k g s0_0 s0_1 4 t686 t687 w0 _ ?side1 ?side2 A4.out).mono ?_); (case side1 => exact qi HI0); (case side2 => exact qb HI0 HB); rintro e w21 ⟨rfl, hi, hb, hk⟩; refine ⟨_, rfl, ?_⟩; have _ := kv hk (bk BK679) NB679_0; have _ := kv hk (bk BK680) NB680_0; have _ := ra (Kd.R_mono (Kd.R_keep (IsS90.apart (show IsS90 w0 _ g s0_0 s0_1 from qi HI0) (Kd.R_mono (rf (Kd.R_types HO684.out BK685.out (by decide))) (fun _ h_ => h_.1)) (by decide)) hk (fun _ h => h.2)) (fun _ h => h.1)); have _ := ra (KeepBut.blk hk (g' := gb685) (o := .cells #[.string t681, .slice Ao20 t682.length co20] 39 (0, 0)) (bp BK685) NB685_0.out (by simp)); have _ := ku (qk _ _ _ HK) hk; have _ := ra (hb); have _ := ra (hi); clear BK679 BK680 HO684 BK685 HK HB HI0; rename_i BK679 BK680 HO684 BK685 HK HB HI0; (try clear hb); (try clear hb2); (try clear hk); (try clear hi)) | ((with_reducible refine gate_callee (f := 65) rfl ?_); refine gl (some 36) Try.func65 #[.pointer (some ⟨g, 0, none⟩), .int .i64 2] ?_; (with_reducible refine (spec_l1Rd_pick.calls k g s0_0 t687 2 t688 t689 w0 _ ?side1 ?side2 A6.out).mono ?_); (case side1 => exact qi HI0); (case side2 => exact qb HI0 HB); rintro e w22 ⟨rfl, hi, hb, hk⟩; refine ⟨_, rfl, ?_⟩; have _ := kv hk (bk BK679) NB679_0; have _ := kv hk (bk BK680) NB680_0; have _ := ra (Kd.R_mono (Kd.R_keep (IsS90.apart (show IsS90 w0 _ g s0_0 t687 from qi HI0) (rq HO684) (by decide)) hk (fun _ h => h.2)) (fun _ h => h.1)); have _ := kv hk (bk BK685) NB685_0; have _ := ku (qk _ _ _ HK) hk; have _ := ra (hb); have _ := ra (hi); clear BK679 BK680 HO684 BK685 HK HB HI0; rename_i BK679 BK680 HO684 BK685 HK HB HI0; (try clear hb); (try clear hb2); (try clear hk); (try clear hi)) | ((with_reducible refine gate_callee (f := 75) rfl ?_); refine gl (some 38) Try.func75 #[.string (⟨#[110]⟩ : ByteArray), .int .i64 (wrap64 (8 + t688))] ?_; (with_reducible refine (spec_l1Many.calls k (⟨#[110]⟩ : ByteArray) (wrap64 (8 + t688)) t690 _ A7.out).mono ?_); rintro e w' ⟨rfl, ⟨nd, rfl⟩⟩; refine ⟨_, rfl, ?_⟩; (try (rw [drewN_self w22]; generalize hq_ : World.drewN w22 _ = w22; have _ : Aside0 (Kd.R k26 26 w22 w.heap.size (fun _ => True) (.slice Ao20 t682.length co20) t682) := ⟨by rw [← hq_]; exact (rq HO684)⟩; have _ : Aside0 (w22.heap[gb679]? = some (.cells #[.string a1_0, .slice A1_1 l1_1.length c1_1] 39 (0, 0))) := ⟨by rw [← hq_]; exact (bk BK679)⟩; have _ : Aside0 (w22.heap[gb680]? = some (.cells #[.string (⟨#[]⟩ : ByteArray), .slice none 0 0] 39 (0, 0))) := ⟨by rw [← hq_]; exact (bk BK680)⟩; have _ : Aside0 (w22.heap[gb685]? = some (.cells #[.string t681, .slice Ao20 t682.length co20] 39 (0, 0))) := ⟨by rw [← hq_]; exact (bk BK685)⟩; have _ : Aside0 (IsS90 w0 w22 g s0_0 t689) := ⟨by rw [← hq_]; exact (qi HI0)⟩; have _ : Aside0 (KeepBut w w22 g none) := ⟨by rw [← hq_]; exact (qk _ _ _ HK)⟩; have _ : Aside0 (Below w0.heap.size w0 w22) := ⟨by rw [← hq_]; exact (qb HI0 HB)⟩; clear HO684 BK679 BK680 BK685 HI0 HK HB hq_; rename_i HO684 BK679 BK680 BK685 HI0 HK HB))) | ((with_reducible refine gate_dst (N := 39) rfl ?_); refine Kd.R_lit Kd.string _ 9 ?hg (N := 39) ?hd (xs := ([(⟨#[]⟩ : ByteArray), (⟨#[65]⟩ : ByteArray), t690] : List ByteArray)) (inner := [.string (⟨#[]⟩ : ByteArray), .string (⟨#[65]⟩ : ByteArray), .string t690]) (ok := fun _ => True) (okp := fun _ => True) ?hr ?hp (fun _ hk => hk) trivial (Below.refl _ _) (Nat.le_refl _) (by simp) ?_; (case hd => rfl); (case hg => rfl); (case hr => first | (go_simp; done) | (go_simp; rfl)); (case hp => exact (Reps.one (show Kd.M Kd.string _ _ _ (⟨#[]⟩ : ByteArray) [.string (⟨#[]⟩ : ByteArray)] from rfl) (Reps.one (show Kd.M Kd.string _ _ _ (⟨#[65]⟩ : ByteArray) [.string (⟨#[65]⟩ : ByteArray)] from rfl) (Reps.one (show Kd.M Kd.string _ _ _ t690 [.string t690] from rfl) (Reps.none _ _))))); intro v692 w23 ho24 hb hg_ hnew_; clear hg_ hnew_; (first | rw [← Ny691.out] at ho24 | (simp only [Int.reduceToNat] at ho24; rw [← Ny691.out] at ho24)); have _ := ra (Kd.R_below (rq HO684) hb); have _ := ra (Kd.R_lower ho24 (keep_size (w := w) (g := g) (row := none) (qk _ _ _ HK))); have _ := ra (IsS90.below (qi HI0) hb); have _ := bb (bk BK679) hb; have _ := bb (bk BK680) hb; have _ := bb (bk BK685) hb; have _ := kt (qk _ _ _ HK) hb; have _ := ra (below_step (qb HI0 HB) hb); clear HO684 HI0 BK679 BK680 BK685 HK HB; rename_i HO684 HO693 HI0 BK679 BK680 BK685 HK HB; clear hb ho24; obtain ⟨Ao25, co25, eo25⟩ := Kd.R_slice HO693.out; subst eo25) | ((with_reducible refine gate_callee (f := 72) rfl ?_); refine gl (some 40) Try.func72 #[.pointer (some ⟨g, 0, none⟩), .slice Ao25 y691.length co25] ?_; (with_reducible refine (spec_l1Rd_of.calls k g s0_0 t689 _ _ y691 t694 t695 w0 _ ?side1 ?side2 ?side3 ?side4 ?side5 A8.out).mono ?_); (case side1 => exact qi HI0); (case side2 => exact qb HI0 HB); (case side3 => exact sr HO693); (case side4 => exact (Kd.R_reads' HO693.out).2.1); (case side5 => exact far_slice (IsS90.own_ne HI0.out HO693.out (by decide))); rintro e w26 ⟨rfl, hi, hb, hk⟩; refine ⟨_, rfl, ?_⟩; have _ := kv hk (bk BK679) NB679_0; have _ := kv hk (bk BK680) NB680_0; have _ := ra (Kd.R_mono (Kd.R_keep (IsS90.apart (show IsS90 w0 _ g s0_0 t689 from qi HI0) (rq HO684) (by decide)) hk (fun _ h => h.2)) (fun _ h => h.1)); have _ := kv hk (bk BK685) NB685_0; have _ := ra (Kd.R_mono (Kd.R_keep (IsS90.apart (show IsS90 w0 _ g s0_0 t689 from qi HI0) (rq HO693) (by decide)) hk (fun _ h => h.2)) (fun _ h => h.1)); have _ := ku (qk _ _ _ HK) hk; have _ := ra (hb); have _ := ra (hi); clear BK679 BK680 HO684 BK685 HO693 HK HB HI0; rename_i BK679 BK680 HO684 BK685 HO693 HK HB HI0; (try clear hb); (try clear hb2); (try clear hk); (try clear hi); obtain ⟨hcz27_0, hcz27_1, hfz27_0, hfz27_1⟩ := zc2 BK685; have hnb28 := NB680_0.out; have hnc28 := NB0_680.out; obtain ⟨hcz29_0, hcz29_1, hfz29_0, hfz29_1⟩ := zc2 BK680))
  refine bodyPost_ret (results_cell_row rfl _ _ gb680 39 #[.string t694, .slice Ao20 t682.length co20] (0, 0) _ rfl (bp BK680) Try.underlying39 rfl (by kernel_rfl)) rfl ?_
  exact ⟨_, re, by (with_reducible repeat (first | apply Kd.R_alloc | apply Kd.R_drewN | apply Kd.R_drew)); exact Kd.R_mono (rf (Kd.R_types (Kd.R_types HO684.out BK685.out (by decide)) BK680.out (by decide))) (fun _ hk => trivial), by exact qi HI0, by exact qb HI0 HB, by exact qk _ _ _ HK⟩
 ·rw [if_neg c5] at H
  have c5b0 : (t686 == 0) = false := beq_eq_false_iff_ne.mpr c5
  have c5b1 : (t686 != 0) = true := bne_iff_ne.mpr c5
  by_cases c30 : t686 = 1
  ·rw [if_pos c30] at H
   have c30b0 : (t686 == 1) = true := beq_iff_eq.mpr c30
   have c30b1 : (t686 != 1) = false := bne_eq_false_iff_eq.mpr c30
   clear c30
   obtain ⟨⟨t696, t697⟩, A31, H⟩ := bo H
   try dsimp only at H
   have H' := Aside0.mk H
   clear H
   go_enter Try.func73, Try.ntmps73
   go_wp2_with (first | ((with_reducible refine gate_dst (N := 3) rfl ?_); refine be 3 #[.string a1_0, .slice A1_1 l1_1.length c1_1] 39 ?_; intro gb679 hg w32 hbox hb; have _ := ra (IsS90.below (qi HI0) hb); have _ := kt (qk _ _ _ HK) hb; have _ := ra (below_step (qb HI0 HB) hb); have _ := ra (hbox); have _ := ns hg (qk w _ g HK); have _ := nt hg HW0 (qk w _ g HK); have _ := nl hg (qi HI0); have _ := nr hg (qi HI0); clear HI0 HK HB; rename_i HI0 HK HB BK679 GW679 GE679 NB0_679 NB679_0; clear hb hbox hg) | ((with_reducible refine gate_dst (N := 4) rfl ?_); refine be 4 #[.string (⟨#[]⟩ : ByteArray), .slice none 0 0] 39 ?_; intro gb680 hg w33 hbox hb; have _ := ra (IsS90.below (qi HI0) hb); have _ := bb (bk BK679) hb; have _ := kt (qk _ _ _ HK) hb; have _ := ra (below_step (qb HI0 HB) hb); have _ := ra (hbox); have _ := ns hg (qk w _ g HK); have _ := nt hg HW0 (qk w _ g HK); have _ := bn hg (bk BK679); have _ := bm hg (bk BK679); have _ := nl hg (qi HI0); have _ := nr hg (qi HI0); clear HI0 BK679 HK HB; rename_i HI0 BK679 HK HB BK680 GW680 GE680 NB679_680 NB680_679 NB0_680 NB680_0; clear hb hbox hg; have hnb34 := NB679_680.out; have hnc34 := NB680_679.out; have hnb35 := NB679_0.out; have hnc35 := NB0_679.out; obtain ⟨hcz36_0, hcz36_1, hfz36_0, hfz36_1⟩ := zc2 BK679) | ((with_reducible refine gate_callee (f := 67) rfl ?_); refine gl (some 9) Try.func67 #[.agg #[.string a1_0, .slice A1_1 l1_1.length c1_1]] ?_; (with_reducible refine (spec_l2Copy.calls a1_0 _ _ l1_1 t681 t682 _ ?side1 ?side2 A3.out).mono ?_); (case side1 => exact Kd.C_foot_now HR1_1.out (qk _ _ _ HK)); (case side2 => exact HC1_1.out); rintro e w37 ⟨v683, rfl, ho0, hb⟩; refine ⟨_, rfl, ?_⟩; have _ := ra (Kd.R_lower ho0 (keep_size (w := w) (g := g) (row := none) (qk _ _ _ HK))); have _ := ra (IsS90.below (qi HI0) hb); have _ := bb (bk BK679) hb; have _ := bb (bk BK680) hb; have _ := kt (qk _ _ _ HK) hb; have _ := ra (below_step (qb HI0 HB) hb); clear HI0 BK679 BK680 HK HB; rename_i HO684 HI0 BK679 BK680 HK HB; (try clear hb); (try clear hb2); (try clear hk); (try clear hi); (try clear ho0)) | ((with_reducible refine gate_dst (N := 5) rfl ?_); refine be 5 #[.string (⟨#[]⟩ : ByteArray), .slice none 0 0] 39 ?_; intro gb685 hg w38 hbox hb; have _ := ra (Kd.R_below (rq HO684) hb); have _ := ra (IsS90.below (qi HI0) hb); have _ := bb (bk BK679) hb; have _ := bb (bk BK680) hb; have _ := kt (qk _ _ _ HK) hb; have _ := ra (below_step (qb HI0 HB) hb); have _ := ra (hbox); have _ := ns hg (qk w _ g HK); have _ := nt hg HW0 (qk w _ g HK); have _ := bn hg (bk BK679); have _ := bm hg (bk BK679); have _ := bn hg (bk BK680); have _ := bm hg (bk BK680); have _ := nl hg (qi HI0); have _ := nr hg (qi HI0); clear HO684 HI0 BK679 BK680 HK HB; rename_i HO684 HI0 BK679 BK680 HK HB BK685 GW685 GE685 NB679_685 NB685_679 NB680_685 NB685_680 NB0_685 NB685_0; clear hb hbox hg; have hnb39 := NB685_679.out; have hnc39 := NB679_685.out; have hnb40 := NB685_680.out; have hnc40 := NB680_685.out; have hnb41 := NB685_0.out; have hnc41 := NB0_685.out; obtain ⟨hcz42_0, hcz42_1, hfz42_0, hfz42_1⟩ := zc2 BK685; obtain ⟨Ao43, co43, eo43⟩ := Kd.R_slice HO684.out; subst eo43) | ((with_reducible refine gate_callee (f := 65) rfl ?_); refine gl (some 11) Try.func65 #[.pointer (some ⟨g, 0, none⟩), .int .i64 4] ?_; (with_reducible refine (spec_l1Rd_pick.calls k g s0_0 s0_1 4 t686 t687 w0 _ ?side1 ?side2 A4.out).mono ?_); (case side1 => exact qi HI0); (case side2 => exact qb HI0 HB); rintro e w44 ⟨rfl, hi, hb, hk⟩; refine ⟨_, rfl, ?_⟩; have _ := kv hk (bk BK679) NB679_0; have _ := kv hk (bk BK680) NB680_0; have _ := ra (Kd.R_mono (Kd.R_keep (IsS90.apart (show IsS90 w0 _ g s0_0 s0_1 from qi HI0) (Kd.R_mono (rf (Kd.R_types HO684.out BK685.out (by decide))) (fun _ h_ => h_.1)) (by decide)) hk (fun _ h => h.2)) (fun _ h => h.1)); have _ := ra (KeepBut.blk hk (g' := gb685) (o := .cells #[.string t681, .slice Ao43 t682.length co43] 39 (0, 0)) (bp BK685) NB685_0.out (by simp)); have _ := ku (qk _ _ _ HK) hk; have _ := ra (hb); have _ := ra (hi); clear BK679 BK680 HO684 BK685 HK HB HI0; rename_i BK679 BK680 HO684 BK685 HK HB HI0; (try clear hb); (try clear hb2); (try clear hk); (try clear hi)) | ((with_reducible refine gate_callee (f := 65) rfl ?_); refine gl (some 45) Try.func65 #[.pointer (some ⟨g, 0, none⟩), .int .i64 2] ?_; (with_reducible refine (spec_l1Rd_pick.calls k g s0_0 t687 2 t696 t697 w0 _ ?side1 ?side2 A31.out).mono ?_); (case side1 => exact qi HI0); (case side2 => exact qb HI0 HB); rintro e w45 ⟨rfl, hi, hb, hk⟩; refine ⟨_, rfl, ?_⟩; have _ := kv hk (bk BK679) NB679_0; have _ := kv hk (bk BK680) NB680_0; have _ := ra (Kd.R_mono (Kd.R_keep (IsS90.apart (show IsS90 w0 _ g s0_0 t687 from qi HI0) (rq HO684) (by decide)) hk (fun _ h => h.2)) (fun _ h => h.1)); have _ := kv hk (bk BK685) NB685_0; have _ := ku (qk _ _ _ HK) hk; have _ := ra (hb); have _ := ra (hi); clear BK679 BK680 HO684 BK685 HK HB HI0; rename_i BK679 BK680 HO684 BK685 HK HB HI0; (try clear hb); (try clear hb2); (try clear hk); (try clear hi)))
   go_loopg [] k (fun kq w' => ∃ (x1001_1 : Int) (x686001_1 : List (S26)) (u686001 : Value), Aside0 (spec_l2SpoilTube.l0 kq (wrap64 (40 + t696)) s0_0 x1001_1 t681 x686001_1 = some (r1, r2, r3)) ∧ Aside0 (kq ≤ k) ∧ Aside0 (Kd.R k26 26 w' w.heap.size (fun _ => True) u686001 x686001_1) ∧ Aside0 (w'.heap[gb679]? = some (.cells #[.string a1_0, (.slice A1_1 l1_1.length c1_1)] 39 (0, 0))) ∧ Aside0 (w'.heap[gb680]? = some (.cells #[.string (⟨#[]⟩ : ByteArray), (.slice none 0 0)] 39 (0, 0))) ∧ Aside0 (w'.heap[gb685]? = some (.cells #[.string t681, u686001] 39 (0, 0))) ∧ Aside0 (IsS90 w0 w' g s0_0 x1001_1) ∧ Aside0 (KeepBut w w' g none) ∧ Aside0 (Below w0.heap.size w0 w'))
   case atStart => exact ⟨(t697), (t682), (.slice Ao43 t682.length co43), H', ⟨Nat.le_refl _⟩, ⟨rq HO684⟩, ⟨bk BK679⟩, ⟨bk BK680⟩, ⟨bk BK685⟩, ⟨by exact qi HI0⟩, ⟨by exact qk _ _ _ HK⟩, ⟨by exact qb HI0 HB⟩⟩
   case round =>
    clear H'
    try clear c5
    try clear c5b0
    try clear c5b1
    try clear c30
    try clear c30b0
    try clear c30b1
    try clear hcz13_0
    try clear hcz13_1
    try clear hcz19_0
    try clear hcz19_1
    try clear hcz27_0
    try clear hcz27_1
    try clear hcz29_0
    try clear hcz29_1
    try clear hcz36_0
    try clear hcz36_1
    try clear hcz42_0
    try clear hcz42_1
    try clear hfz13_0
    try clear hfz13_1
    try clear hfz19_0
    try clear hfz19_1
    try clear hfz27_0
    try clear hfz27_1
    try clear hfz29_0
    try clear hfz29_1
    try clear hfz36_0
    try clear hfz36_1
    try clear hfz42_0
    try clear hfz42_1
    obtain ⟨x1001_1, x686001_1, u686001, HA, HK1, HO_686001, BK679, BK680, BK685, HI0, HK, HB⟩ := hrel
    cases gk with
    | zero => exact absurd HA.out (by simp [spec_l2SpoilTube.l0])
    | succ k1 =>
     have H := HA.out
     clear HA
     simp only [spec_l2SpoilTube.l0] at H
     by_cases c46 : (x686001_1.length : Int) < (wrap64 (40 + t696))
     ·rw [if_pos c46] at H
      have c46b0 : decide ((x686001_1.length : Int) < (wrap64 (40 + t696))) = true := decide_eq_true c46
      clear c46
      obtain ⟨⟨t698, t699, t700, t701, t702, t703, t704⟩, A47, H⟩ := bo H
      try dsimp only at H
      by_cases c48 : x686001_1.length < 2932031007402
      ·rw [if_pos c48] at H
       have LMc48 := Aside0.mk c48
       clear c48
       obtain ⟨y705, hy_⟩ : ∃ y_ : List (S26), y_ = (x686001_1 ++ [(⟨t698, t699, t700, t701, t702, t703⟩ : S26)]) := ⟨_, rfl⟩
       replace H : (spec_l2SpoilTube.l0 k1 (wrap64 (40 + t696)) s0_0 t704 t681 y705) = some (r1, r2, r3) := yh
       have Ny705 := ra hy_
       clear hy_
       have H' := Aside0.mk H
       clear H
       have hnb49 := NB685_679.out
       have hnc49 := NB679_685.out
       have hnb50 := NB685_680.out
       have hnc50 := NB680_685.out
       have hnb51 := NB685_0.out
       have hnc51 := NB0_685.out
       obtain ⟨hcz52_0, hcz52_1, hfz52_0, hfz52_1⟩ := zc2 BK685
       obtain ⟨Ao53, co53, eo53⟩ := Kd.R_slice HO_686001.out
       subst eo53
       try go_wp2
       have _ := ra (Kd.R_drew HO_686001.out)
       have _ := ra (blk_drew BK679.out)
       have _ := ra (blk_drew BK680.out)
       have _ := ra (blk_drew BK685.out)
       have _ := ra (IsS90.drew HI0.out)
       have _ := ra (keep_drew HK.out)
       have _ := ra (below_drew1 HB.out)
       clear HO_686001 BK679 BK680 BK685 HI0 HK HB
       rename_i HO_686001 BK679 BK680 BK685 HI0 HK HB
       refine start_ (n := 8) (S := fun w' => w'.cell? ⟨gb685, 0, none⟩ = some (.string t681) ∧ w'.cell? ⟨gb685, 1, none⟩ = some (.slice Ao53 x686001_1.length co53)) (ds := [7]) #[false, false, false, false, false, false, false, false] (by kernel_rfl) rfl rfl ⟨(blk_cell BK685.out 0).trans rfl, (blk_cell BK685.out 1).trans rfl⟩ (fun hHeld => ?_); refine with_tabW spec_l2SpoilTube.tab11 spec_l2SpoilTube.bits11 (fun HT_ HW_ => ?_)
       generalize wr.drew = w54 at HO_686001 BK679 BK680 BK685 HI0 HK HB hHeld ⊢
       refine pu 0 52 (bl 8 1) ?_
       refine pu 2 54 (bl 8 5) ?_
       refine tk 1 53 (bl 8 7) ?_ hHeld
       refine oe 3 55 (bl 8 15) (fun K hK => ?_)
       refine gs Try.func68 #[.pointer (some ⟨g, 0, none⟩)] ?_
       with_reducible refine (spec_l1DrawBox.calls k1 g s0_0 x1001_1 t698 t699 t700 t701 t702 t703 t704 w0 _ ?side1 ?side2 A47.out).mono ?_
       (case side1 => exact qi HI0)
       (case side2 => exact qb HI0 HB)
       rintro e w55 ⟨rfl, hi, hb, hk⟩
       refine ⟨_, rfl, ?_⟩
       have _ := ra (Kd.R_mono (Kd.R_keep (IsS90.apart (show IsS90 w0 _ g s0_0 x1001_1 from qi HI0) (rq HO_686001) (by decide)) hk (fun _ h => h.2)) (fun _ h => h.1))
       have _ := kv hk (bk BK679) NB679_0
       have _ := kv hk (bk BK680) NB680_0
       have _ := kv hk (bk BK685) NB685_0
       have _ := ku (qk _ _ _ HK) hk
       have _ := ra (hb)
       have _ := ra (hi)
       clear HO_686001 BK679 BK680 BK685 HK HB HI0
       rename_i HO_686001 BK679 BK680 BK685 HK HB HI0
       (try clear hb)
       (try clear hb2)
       (try clear hk)
       (try clear hi)
       refine hK.out _ _ ⟨(blk_cell BK685.out 0).trans rfl, (blk_cell BK685.out 1).trans rfl⟩ (fun hHeld => ?_)
       clear hK K
       refine nm 55 ?_
       refine oe 4 56 (bl 8 31) (fun K hK => ?_)
       refine value_ (w1 := ?_) (v := ?_) (by rfl) rfl ?_ ?_
       rotate_left 2
       ·go_simp
        constructor
        ·rfl
        ·rfl
       refine hK.out _ _ ⟨(blk_cell (blk_alloc BK685.out _) 0).trans rfl, (blk_cell (blk_alloc BK685.out _) 1).trans rfl⟩ (fun hHeld => ?_)
       clear hK K
       refine nm 56 ?_
       refine oe 5 57 (bl 8 63) (fun K hK => ?_)
       refine Kd.R_append_step k26 w.heap.size (by rfl) (.tmp 53) (.tmp 56) 37 26 (.agg #[(.int .i64 0), (.int .i64 0), (.int .i64 0), (.int .i64 0), (.int .i64 0), (.int .i64 0)]) 48 rfl Try.underlying37 info26 rfl (by decide) (by omega) (.slice Ao53 x686001_1.length co53) x686001_1 (⟨t698, t699, t700, t701, t702, t703⟩ : S26) [.int .i64 t698, .int .i64 t699, .int .i64 t700, .int .i64 t701, .int .i64 t702, .int .i64 t703] (fun _ => True) (fun _ => False) rfl rfl ?aP (fun _ hk => hk.elim) ?aF ?aO (Below.refl _ _) ?aS ?aL ?_
       (case aP => exact k26_mkM _ _ _ (⟨t698, t699, t700, t701, t702, t703⟩ : S26))
       (case aF => exact (fun _ _ => trivial))
       (case aO => exact (rq HO_686001))
       (case aS => exact (keep_size (w := w) (g := g) (row := none) (qk _ _ _ HK)))
       (case aL => have := LMc48.out; omega)
       intro v706 w56 ho hb hg hat
       rw [← Ny705.out] at ho
       have _ := ra (blk_grown (g := gb679) (o := .cells #[.string a1_0, .slice A1_1 l1_1.length c1_1] 39 (0, 0)) (bk BK679) hg (Kd.R_ne HO_686001.out BK679.out (by decide)))
       have _ := ra (blk_grown (g := gb680) (o := .cells #[.string (⟨#[]⟩ : ByteArray), .slice none 0 0] 39 (0, 0)) (bk BK680) hg (Kd.R_ne HO_686001.out BK680.out (by decide)))
       have _ := ra (blk_grown (g := gb685) (o := .cells #[.string t681, .slice Ao53 x686001_1.length co53] 39 (0, 0)) (bk BK685) hg (Kd.R_ne HO_686001.out BK685.out (by decide)))
       have _ := ra (IsS90.grown (qi HI0) hg (IsS90.own_ne HI0.out HO_686001.out (by decide)))
       have _ := ra (below_weaken (qb HI0 HB) HL.out hb)
       have _ := ra (KeepBut.trans (qk _ _ _ HK) (KeepBut.of_grown hg g) (Kd.R_base2 HO_686001.out))
       have _ := ra (ho)
       clear BK679 BK680 BK685 HI0 HB HK HO_686001
       rename_i BK679 BK680 BK685 HI0 HB HK HO707
       clear ho hb hg hat
       obtain ⟨Ao57, co57, eo57⟩ := Kd.R_slice HO707.out
       (first | subst eo57 | (injection eo57 with f1_ f2_ f3_; have f4_ := f1_.symm; have f5_ := f3_.symm; clear f1_ f2_ f3_; subst f4_; subst f5_))
       refine hK.out _ _ ⟨(blk_cell BK685.out 0).trans rfl, (blk_cell BK685.out 1).trans rfl⟩ (fun hHeld => ?_)
       clear hK K
       refine nm 57 ?_
       refine pu 6 58 (bl 8 127) ?_
       refine last_ (i := 7) (N := none) #[true, true, true, true, true, true, true, true] rfl rfl (one_of HT_.out (by kernel_rfl)) (by decide) (fun K hK => ?_)
       have hs58 : w56.cell? ⟨gb685, 1, none⟩ = some (.slice Ao53 x686001_1.length co53) := (blk_cell BK685.out 1).trans rfl
       have hfs58 := blk_frozen BK685.out 1
       have hns58_0 := NB679_685.out
       have hns58_1 := NB680_685.out
       have hms58_0 := NB685_679.out
       have hms58_1 := NB685_680.out
       refine skip_ (w1 := ?_) (by rfl) rfl ?_ ?_
       rotate_left
       ·go_simp
        rfl
       refine hK.out _ _ ?_
       clear hK K
       refine done_ (done_of HT_.out (by kernel_rfl)) ?_
       try go_wp2
       go_roundg k1
       case measure => have := HK1.out; omega
       case rel => exact ⟨(t704), (y705), (.slice Ao57 y705.length co57), H', ⟨by have := HK1.out; omega⟩, ⟨by (with_reducible repeat (first | apply Kd.R_alloc | apply Kd.R_drewN | apply Kd.R_drew)); exact Kd.R_mono (rf (Kd.R_types HO707.out BK685.out (by decide))) (fun _ hk => trivial)⟩, ⟨bk BK679⟩, ⟨bk BK680⟩, ⟨bp BK685⟩, ⟨by exact qi HI0⟩, ⟨by exact qk _ _ _ HK⟩, ⟨by exact qb HI0 HB⟩⟩
      ·rw [if_neg c48] at H
       exact absurd H (by simp)
     ·rw [if_neg c46] at H
      have c46b0 : decide ((x686001_1.length : Int) < (wrap64 (40 + t696))) = false := decide_eq_false c46
      clear c46
      simp only [Option.some.injEq, Prod.mk.injEq] at H
      obtain ⟨rfl, rfl, rfl⟩ := H
      have hnb59 := NB685_679.out
      have hnc59 := NB679_685.out
      have hnb60 := NB685_680.out
      have hnc60 := NB680_685.out
      have hnb61 := NB685_0.out
      have hnc61 := NB0_685.out
      obtain ⟨hcz62_0, hcz62_1, hfz62_0, hfz62_1⟩ := zc2 BK685
      obtain ⟨Ao63, co63, eo63⟩ := Kd.R_slice HO_686001.out
      subst eo63
      have hnb64 := NB680_679.out
      have hnc64 := NB679_680.out
      have hnb65 := NB680_0.out
      have hnc65 := NB0_680.out
      obtain ⟨hcz66_0, hcz66_1, hfz66_0, hfz66_1⟩ := zc2 BK680
      go_wp2
      refine bodyPost_ret (results_cell_row rfl _ _ gb680 39 #[.string t681, .slice Ao63 x686001_1.length co63] (0, 0) _ rfl (bp BK680) Try.underlying39 rfl (by kernel_rfl)) rfl ?_
      exact ⟨_, re, by (with_reducible repeat (first | apply Kd.R_alloc | apply Kd.R_drewN | apply Kd.R_drew)); exact Kd.R_mono (rf (Kd.R_types HO_686001.out BK680.out (by decide))) (fun _ hk => trivial), by exact qi HI0, by exact qb HI0 HB, by exact qk _ _ _ HK⟩
  ·rw [if_neg c30] at H
   have c30b0 : (t686 == 1) = false := beq_eq_false_iff_ne.mpr c30
   have c30b1 : (t686 != 1) = true := bne_iff_ne.mpr c30
   by_cases c67 : (t682.length : Int) > 0
   ·rw [if_pos c67] at H
    have c67b0 : decide (0 < (t682.length : Int)) = true := decide_eq_true c67
    have c67b1 : decide (0 < t682.length) = true := decide_eq_true (by omega)
    clear c67
    obtain ⟨⟨t708, t709⟩, A68, H⟩ := bo H
    try dsimp only at H
    by_cases c69 : 0 ≤ t708
    ·rw [if_pos c69] at H
     have c69b0 : decide (0 ≤ t708) = true := decide_eq_true c69
     clear c69
     by_cases c70 : t708 < (t682.length : Int)
     ·rw [if_pos c70] at H
      have c70b0 : decide (t708 < (t682.length : Int)) = true := decide_eq_true c70
      clear c70
      obtain ⟨⟨t711, t712, t713, t714, t715, t716, t717⟩, A71, H⟩ := bo H
      try dsimp only at H
      obtain ⟨y718, hy_⟩ : ∃ y_ : List (S26), y_ = (t682.set (t708 : Int).toNat (⟨t711, t712, t713, t714, t715, t716⟩ : S26)) := ⟨_, rfl⟩
      replace H : (some (t681, y718, t717)) = some (r1, r2, r3) := yh
      have Ny718 := ra hy_
      clear hy_
      simp only [Option.some.injEq, Prod.mk.injEq] at H
      obtain ⟨rfl, rfl, rfl⟩ := H
      go_enter Try.func73, Try.ntmps73
      try go_wp2_with (first | ((with_reducible refine gate_dst (N := 3) rfl ?_); refine be 3 #[.string a1_0, .slice A1_1 l1_1.length c1_1] 39 ?_; intro gb679 hg w73 hbox hb; have _ := ra (IsS90.below (qi HI0) hb); have _ := kt (qk _ _ _ HK) hb; have _ := ra (below_step (qb HI0 HB) hb); have _ := ra (hbox); have _ := ns hg (qk w _ g HK); have _ := nt hg HW0 (qk w _ g HK); have _ := nl hg (qi HI0); have _ := nr hg (qi HI0); clear HI0 HK HB; rename_i HI0 HK HB BK679 GW679 GE679 NB0_679 NB679_0; clear hb hbox hg) | ((with_reducible refine gate_dst (N := 4) rfl ?_); refine be 4 #[.string (⟨#[]⟩ : ByteArray), .slice none 0 0] 39 ?_; intro gb680 hg w74 hbox hb; have _ := ra (IsS90.below (qi HI0) hb); have _ := bb (bk BK679) hb; have _ := kt (qk _ _ _ HK) hb; have _ := ra (below_step (qb HI0 HB) hb); have _ := ra (hbox); have _ := ns hg (qk w _ g HK); have _ := nt hg HW0 (qk w _ g HK); have _ := bn hg (bk BK679); have _ := bm hg (bk BK679); have _ := nl hg (qi HI0); have _ := nr hg (qi HI0); clear HI0 BK679 HK HB; rename_i HI0 BK679 HK HB BK680 GW680 GE680 NB679_680 NB680_679 NB0_680 NB680_0; clear hb hbox hg; have hnb75 := NB679_680.out; have hnc75 := NB680_679.out; have hnb76 := NB679_0.out; have hnc76 := NB0_679.out; obtain ⟨hcz77_0, hcz77_1, hfz77_0, hfz77_1⟩ := zc2 BK679) | ((with_reducible refine gate_callee (f := 67) rfl ?_); refine gl (some 9) Try.func67 #[.agg #[.string a1_0, .slice A1_1 l1_1.length c1_1]] ?_; (with_reducible refine (spec_l2Copy.calls a1_0 _ _ l1_1 t681 t682 _ ?side1 ?side2 A3.out).mono ?_); (case side1 => exact Kd.C_foot_now HR1_1.out (qk _ _ _ HK)); (case side2 => exact HC1_1.out); rintro e w78 ⟨v683, rfl, ho0, hb⟩; refine ⟨_, rfl, ?_⟩; have _ := ra (Kd.R_lower ho0 (keep_size (w := w) (g := g) (row := none) (qk _ _ _ HK))); have _ := ra (IsS90.below (qi HI0) hb); have _ := bb (bk BK679) hb; have _ := bb (bk BK680) hb; have _ := kt (qk _ _ _ HK) hb; have _ := ra (below_step (qb HI0 HB) hb); clear HI0 BK679 BK680 HK HB; rename_i HO684 HI0 BK679 BK680 HK HB; (try clear hb); (try clear hb2); (try clear hk); (try clear hi); (try clear ho0)) | ((with_reducible refine gate_dst (N := 5) rfl ?_); refine be 5 #[.string (⟨#[]⟩ : ByteArray), .slice none 0 0] 39 ?_; intro gb685 hg w79 hbox hb; have _ := ra (Kd.R_below (rq HO684) hb); have _ := ra (IsS90.below (qi HI0) hb); have _ := bb (bk BK679) hb; have _ := bb (bk BK680) hb; have _ := kt (qk _ _ _ HK) hb; have _ := ra (below_step (qb HI0 HB) hb); have _ := ra (hbox); have _ := ns hg (qk w _ g HK); have _ := nt hg HW0 (qk w _ g HK); have _ := bn hg (bk BK679); have _ := bm hg (bk BK679); have _ := bn hg (bk BK680); have _ := bm hg (bk BK680); have _ := nl hg (qi HI0); have _ := nr hg (qi HI0); clear HO684 HI0 BK679 BK680 HK HB; rename_i HO684 HI0 BK679 BK680 HK HB BK685 GW685 GE685 NB679_685 NB685_679 NB680_685 NB685_680 NB0_685 NB685_0; clear hb hbox hg; have hnb80 := NB685_679.out; have hnc80 := NB679_685.out; have hnb81 := NB685_680.out; have hnc81 := NB680_685.out; have hnb82 := NB685_0.out; have hnc82 := NB0_685.out; obtain ⟨hcz83_0, hcz83_1, hfz83_0, hfz83_1⟩ := zc2 BK685; obtain ⟨Ao84, co84, eo84⟩ := Kd.R_slice HO684.out; subst eo84) | ((with_reducible refine gate_callee (f := 65) rfl ?_); refine gl (some 11) Try.func65 #[.pointer (some ⟨g, 0, none⟩), .int .i64 4] ?_; (with_reducible refine (spec_l1Rd_pick.calls k g s0_0 s0_1 4 t686 t687 w0 _ ?side1 ?side2 A4.out).mono ?_); (case side1 => exact qi HI0); (case side2 => exact qb HI0 HB); rintro e w85 ⟨rfl, hi, hb, hk⟩; refine ⟨_, rfl, ?_⟩; have _ := kv hk (bk BK679) NB679_0; have _ := kv hk (bk BK680) NB680_0; have _ := ra (Kd.R_mono (Kd.R_keep (IsS90.apart (show IsS90 w0 _ g s0_0 s0_1 from qi HI0) (Kd.R_mono (rf (Kd.R_types HO684.out BK685.out (by decide))) (fun _ h_ => h_.1)) (by decide)) hk (fun _ h => h.2)) (fun _ h => h.1)); have _ := ra (KeepBut.blk hk (g' := gb685) (o := .cells #[.string t681, .slice Ao84 t682.length co84] 39 (0, 0)) (bp BK685) NB685_0.out (by simp)); have _ := ku (qk _ _ _ HK) hk; have _ := ra (hb); have _ := ra (hi); clear BK679 BK680 HO684 BK685 HK HB HI0; rename_i BK679 BK680 HO684 BK685 HK HB HI0; (try clear hb); (try clear hb2); (try clear hk); (try clear hi); obtain ⟨hcz86_0, hcz86_1, hfz86_0, hfz86_1⟩ := zc2 BK685) | ((with_reducible refine gate_callee (f := 65) rfl ?_); refine gl (some 20) Try.func65 #[.pointer (some ⟨g, 0, none⟩), .int .i64 (t682.length : Int)] ?_; (with_reducible refine (spec_l1Rd_pick.calls k g s0_0 t687 (t682.length : Int) t708 t709 w0 _ ?side1 ?side2 A68.out).mono ?_); (case side1 => exact qi HI0); (case side2 => exact qb HI0 HB); rintro e w87 ⟨rfl, hi, hb, hk⟩; refine ⟨_, rfl, ?_⟩; have _ := kv hk (bk BK679) NB679_0; have _ := kv hk (bk BK680) NB680_0; have _ := ra (Kd.R_mono (Kd.R_keep (IsS90.apart (show IsS90 w0 _ g s0_0 t687 from qi HI0) (rq HO684) (by decide)) hk (fun _ h => h.2)) (fun _ h => h.1)); have _ := kv hk (bk BK685) NB685_0; have _ := ku (qk _ _ _ HK) hk; have _ := ra (hb); have _ := ra (hi); clear BK679 BK680 HO684 BK685 HK HB HI0; rename_i BK679 BK680 HO684 BK685 HK HB HI0; (try clear hb); (try clear hb2); (try clear hk); (try clear hi)))
      have _ := ra (Kd.R_drew HO684.out)
      have _ := ra (blk_drew BK679.out)
      have _ := ra (blk_drew BK680.out)
      have _ := ra (blk_drew BK685.out)
      have _ := ra (IsS90.drew HI0.out)
      have _ := ra (keep_drew HK.out)
      have _ := ra (below_drew1 HB.out)
      clear HO684 BK679 BK680 BK685 HI0 HK HB
      rename_i HO684 BK679 BK680 BK685 HI0 HK HB
      have p710 : 0 ≤ (t708 : Int) := od
      have q710 : t708 < (t682.length : Int) := od
      obtain ⟨ad710, e710, hx710_0, hx710_1, hx710_2, hx710_3, hx710_4, hx710_5⟩ := at_T26 (Kd.R_reads' HO684.out).2.2 t708 p710 q710
      cases e710
      replace p710 := eq_true p710
      replace q710 := eq_true q710
      refine start_ (n := 12) (S := fun w' => w'.cell? ⟨gb685, 0, none⟩ = some (.string t681) ∧ w'.cell? ⟨gb685, 1, none⟩ = some (.slice (some ad710) t682.length co84) ∧ w'.cell? (ad710.add ((t708).toNat * 6)) = some (.int .i64 ((rd_T26 t682 t708).f0)) ∧ w'.cell? ⟨(ad710.add ((t708).toNat * 6)).block, (ad710.add ((t708).toNat * 6)).off + 1, none⟩ = some (.int .i64 ((rd_T26 t682 t708).f1)) ∧ w'.cell? ⟨(ad710.add ((t708).toNat * 6)).block, (ad710.add ((t708).toNat * 6)).off + 2, none⟩ = some (.int .i64 ((rd_T26 t682 t708).f2)) ∧ w'.cell? ⟨(ad710.add ((t708).toNat * 6)).block, (ad710.add ((t708).toNat * 6)).off + 3, none⟩ = some (.int .i64 ((rd_T26 t682 t708).f3)) ∧ w'.cell? ⟨(ad710.add ((t708).toNat * 6)).block, (ad710.add ((t708).toNat * 6)).off + 4, none⟩ = some (.int .i64 ((rd_T26 t682 t708).f4)) ∧ w'.cell? ⟨(ad710.add ((t708).toNat * 6)).block, (ad710.add ((t708).toNat * 6)).off + 5, none⟩ = some (.int .i64 ((rd_T26 t682 t708).f5))) (ds := [11]) #[false, false, false, false, false, false, false, false, false, false, false, false] (by kernel_rfl) rfl rfl ⟨(blk_cell BK685.out 0).trans rfl, (blk_cell BK685.out 1).trans rfl, hx710_0, hx710_1, hx710_2, hx710_3, hx710_4, hx710_5⟩ (fun hHeld => ?_); refine with_tabW spec_l2SpoilTube.tab5 spec_l2SpoilTube.bits5 (fun HT_ HW_ => ?_)
      generalize w87.drew = w88 at HO684 BK679 BK680 BK685 HI0 HK HB hx710_0 hx710_1 hx710_2 hx710_3 hx710_4 hx710_5 hHeld ⊢
      refine pu 0 21 (bl 12 1) ?_
      refine pu 2 23 (bl 12 5) ?_
      refine pu 3 24 (bl 12 13) ?_
      refine pu 4 25 (bl 12 29) ?_
      refine pu 6 27 (bl 12 93) ?_
      refine tk 1 22 (bl 12 95) ?_ hHeld
      refine tk 5 26 (bl 12 127) ?_ hHeld
      refine pu 7 28 (bl 12 255) ?_
      refine tk 8 29 (bl 12 511) ?_ hHeld
      refine oe 9 30 (bl 12 1023) (fun K hK => ?_)
      refine gs Try.func76 #[.pointer (some ⟨g, 0, none⟩), .agg #[.int .i64 ((rd_T26 t682 t708).f0), .int .i64 ((rd_T26 t682 t708).f1), .int .i64 ((rd_T26 t682 t708).f2), .int .i64 ((rd_T26 t682 t708).f3), .int .i64 ((rd_T26 t682 t708).f4), .int .i64 ((rd_T26 t682 t708).f5)]] ?_
      with_reducible refine (spec_l1SpoilBox.calls k g s0_0 t709 ((rd_T26 t682 t708).f0) ((rd_T26 t682 t708).f1) ((rd_T26 t682 t708).f2) ((rd_T26 t682 t708).f3) ((rd_T26 t682 t708).f4) ((rd_T26 t682 t708).f5) t711 t712 t713 t714 t715 t716 t717 w0 _ ?side1 ?side2 A71.out).mono ?_
      (case side1 => exact qi HI0)
      (case side2 => exact qb HI0 HB)
      rintro e w89 ⟨rfl, hi, hb, hk⟩
      have HS2_ := keep_cell hk (hHeld.2.2.1) (by first | (rw [add_block]; exact Kd.own_blk (IsS90.own_ne HI0.out HO684.out (by decide))) | (show (Addr.add _ _).block ≠ _; rw [add_block]; exact Kd.own_blk (IsS90.own_ne HI0.out HO684.out (by decide))) | exact Kd.own_blk (IsS90.own_ne HI0.out HO684.out (by decide)))
      have HS3_ := keep_cell hk (hHeld.2.2.2.1) (by first | (rw [add_block]; exact Kd.own_blk (IsS90.own_ne HI0.out HO684.out (by decide))) | (show (Addr.add _ _).block ≠ _; rw [add_block]; exact Kd.own_blk (IsS90.own_ne HI0.out HO684.out (by decide))) | exact Kd.own_blk (IsS90.own_ne HI0.out HO684.out (by decide)))
      have HS4_ := keep_cell hk (hHeld.2.2.2.2.1) (by first | (rw [add_block]; exact Kd.own_blk (IsS90.own_ne HI0.out HO684.out (by decide))) | (show (Addr.add _ _).block ≠ _; rw [add_block]; exact Kd.own_blk (IsS90.own_ne HI0.out HO684.out (by decide))) | exact Kd.own_blk (IsS90.own_ne HI0.out HO684.out (by decide)))
      have HS5_ := keep_cell hk (hHeld.2.2.2.2.2.1) (by first | (rw [add_block]; exact Kd.own_blk (IsS90.own_ne HI0.out HO684.out (by decide))) | (show (Addr.add _ _).block ≠ _; rw [add_block]; exact Kd.own_blk (IsS90.own_ne HI0.out HO684.out (by decide))) | exact Kd.own_blk (IsS90.own_ne HI0.out HO684.out (by decide)))
      have HS6_ := keep_cell hk (hHeld.2.2.2.2.2.2.1) (by first | (rw [add_block]; exact Kd.own_blk (IsS90.own_ne HI0.out HO684.out (by decide))) | (show (Addr.add _ _).block ≠ _; rw [add_block]; exact Kd.own_blk (IsS90.own_ne HI0.out HO684.out (by decide))) | exact Kd.own_blk (IsS90.own_ne HI0.out HO684.out (by decide)))
      have HS7_ := keep_cell hk (hHeld.2.2.2.2.2.2.2) (by first | (rw [add_block]; exact Kd.own_blk (IsS90.own_ne HI0.out HO684.out (by decide))) | (show (Addr.add _ _).block ≠ _; rw [add_block]; exact Kd.own_blk (IsS90.own_ne HI0.out HO684.out (by decide))) | exact Kd.own_blk (IsS90.own_ne HI0.out HO684.out (by decide)))
      refine ⟨_, rfl, ?_⟩
      have _ := kv hk (bk BK679) NB679_0
      have _ := kv hk (bk BK680) NB680_0
      have _ := ra (Kd.R_mono (Kd.R_keep (IsS90.apart (show IsS90 w0 _ g s0_0 t709 from qi HI0) (rq HO684) (by decide)) hk (fun _ h => h.2)) (fun _ h => h.1))
      have _ := kv hk (bk BK685) NB685_0
      have _ := ku (qk _ _ _ HK) hk
      have _ := ra (hb)
      have _ := ra (hi)
      clear BK679 BK680 HO684 BK685 HK HB HI0
      rename_i BK679 BK680 HO684 BK685 HK HB HI0
      (try clear hb)
      (try clear hb2)
      (try clear hk)
      (try clear hi)
      have p72 : 0 ≤ (t708 : Int) := od
      have q72 : (t708 : Int) < ((t682.length : Int) : Int) := od
      obtain ⟨go72, co72, eo72, gb72, gl72, cl72, HG72⟩ := Kd.R_form HO684.out (by omega)
      (first | cases eo72 | (injection eo72 with ea_ en_ ec_; (first | subst ea_ | (injection ea_ with ea_; subst ea_)); subst ec_; clear en_))
      have GB72 := Aside0.mk gb72
      have GG72 := Aside0.mk HG72
      clear gb72 gl72 HG72
      (first | simp only [add_plain] at hx710_0 | skip)
      (first | simp only [add_plain] at hx710_1 | skip)
      (first | simp only [add_plain] at hx710_2 | skip)
      (first | simp only [add_plain] at hx710_3 | skip)
      (first | simp only [add_plain] at hx710_4 | skip)
      (first | simp only [add_plain] at hx710_5 | skip)
      obtain ⟨ce72, hcl72, hM72, hcc72, hfr72⟩ := Kd.R_elem HO684.out z26 (t708 : Int) p72 q72
      obtain rfl := k26_openM hM72
      have hx72_0 : World.cell? _ ⟨go72, (t708 : Int).toNat * 6, none⟩ = some (.int .i64 ((rd_T26 t682 t708).f0)) := hcc72 0 _ rfl
      have hx72_1 : World.cell? _ ⟨go72, (t708 : Int).toNat * 6 + 1, none⟩ = some (.int .i64 ((rd_T26 t682 t708).f1)) := hcc72 1 _ rfl
      have hx72_2 : World.cell? _ ⟨go72, (t708 : Int).toNat * 6 + 2, none⟩ = some (.int .i64 ((rd_T26 t682 t708).f2)) := hcc72 2 _ rfl
      have hx72_3 : World.cell? _ ⟨go72, (t708 : Int).toNat * 6 + 3, none⟩ = some (.int .i64 ((rd_T26 t682 t708).f3)) := hcc72 3 _ rfl
      have hx72_4 : World.cell? _ ⟨go72, (t708 : Int).toNat * 6 + 4, none⟩ = some (.int .i64 ((rd_T26 t682 t708).f4)) := hcc72 4 _ rfl
      have hx72_5 : World.cell? _ ⟨go72, (t708 : Int).toNat * 6 + 5, none⟩ = some (.int .i64 ((rd_T26 t682 t708).f5)) := hcc72 5 _ rfl
      have hf72_0 : World.frozen? _ ⟨go72, (t708 : Int).toNat * 6, none⟩ = false := hfr72 0
      have hf72_1 : World.frozen? _ ⟨go72, (t708 : Int).toNat * 6 + 1, none⟩ = false := hfr72 1
      have hf72_2 : World.frozen? _ ⟨go72, (t708 : Int).toNat * 6 + 2, none⟩ = false := hfr72 2
      have hf72_3 : World.frozen? _ ⟨go72, (t708 : Int).toNat * 6 + 3, none⟩ = false := hfr72 3
      have hf72_4 : World.frozen? _ ⟨go72, (t708 : Int).toNat * 6 + 4, none⟩ = false := hfr72 4
      have hf72_5 : World.frozen? _ ⟨go72, (t708 : Int).toNat * 6 + 5, none⟩ = false := hfr72 5
      clear hcl72 hcc72 hfr72 hM72
      replace p72 := eq_true p72
      replace q72 := eq_true q72
      have HN0_go72 := ra (show g ≠ go72 from by have h_ := IsS90.own_ne HI0.out HO684.out (by decide); intro e_; exact h_ (by rw [e_]; rfl))
      obtain ⟨ce90, hcl90, hM90, hcc90, hfr90⟩ := Kd.R_elem HO684.out z26 (t708 : Int) (od) (by have h_ : (t708 : Int) < ((t682.length : Int) : Int) := od; first | exact h_ | (have e_ := (Kd.R_reads' HO684.out).1; omega) | simpa using h_)
      obtain rfl := k26_openM hM90
      have HP90 := (Kd.R_seg HO684.out (t708 : Int) (od) (by have h_ : (t708 : Int) < ((t682.length : Int) : Int) := od; first | exact h_ | (have e_ := (Kd.R_reads' HO684.out).1; omega) | simpa using h_) (seg := [.int .i64 t711, .int .i64 t712, .int .i64 t713, .int .i64 t714, .int .i64 t715, .int .i64 t716]) (j := 0) hcl90 hcc90 (show 6 ≤ 6 from by decide) (x' := (⟨t711, t712, t713, t714, t715, t716⟩ : S26)) (k26_mkM _ _ _ (⟨t711, t712, t713, t714, t715, t716⟩ : S26) ) (fun _ hk => hk)).1
      rw [← Ny718.out] at HP90
      have HQ90 := Aside0.mk HP90
      clear hcl90 hcc90 hfr90 hM90 HP90
      refine hK.out _ _ ⟨(blk_cell BK685.out 0).trans rfl, (blk_cell BK685.out 1).trans rfl, HS2_, HS3_, HS4_, HS5_, HS6_, HS7_⟩ (fun hHeld => ?_)
      clear hK K
      refine nm 30 ?_
      refine pu 10 31 (bl 12 2047) ?_
      refine last_ (i := 11) (N := none) #[true, true, true, true, true, true, true, true, true, true, true, true] rfl rfl (one_of HT_.out (by kernel_rfl)) (by decide) (fun K hK => ?_)
      refine skip_ (w1 := ?_) (by rfl) rfl ?_ ?_
      rotate_left
      ·go_simp
       rfl
      refine hK.out _ _ ?_
      clear hK K
      refine done_ (done_of HT_.out (by kernel_rfl)) ?_
      have n0 : Aside0 (Kd.R k26 26 ((((((w89.setCell ⟨go72, (t708 : Int).toNat * 6, none⟩ (.int .i64 t711)).setCell ⟨go72, (t708 : Int).toNat * 6 + 1, none⟩ (.int .i64 t712)).setCell ⟨go72, (t708 : Int).toNat * 6 + 2, none⟩ (.int .i64 t713)).setCell ⟨go72, (t708 : Int).toNat * 6 + 3, none⟩ (.int .i64 t714)).setCell ⟨go72, (t708 : Int).toNat * 6 + 4, none⟩ (.int .i64 t715)).setCell ⟨go72, (t708 : Int).toNat * 6 + 5, none⟩ (.int .i64 t716)) w.heap.size (fun _ => True) (.slice (some ⟨go72, 0, none⟩) t682.length co84) y718) := ⟨by (with_reducible repeat (first | apply Kd.R_alloc | apply Kd.R_drewN | apply Kd.R_drew)); exact HQ90.out⟩
      have n1 : Aside0 (((((((w89.setCell ⟨go72, (t708 : Int).toNat * 6, none⟩ (.int .i64 t711)).setCell ⟨go72, (t708 : Int).toNat * 6 + 1, none⟩ (.int .i64 t712)).setCell ⟨go72, (t708 : Int).toNat * 6 + 2, none⟩ (.int .i64 t713)).setCell ⟨go72, (t708 : Int).toNat * 6 + 3, none⟩ (.int .i64 t714)).setCell ⟨go72, (t708 : Int).toNat * 6 + 4, none⟩ (.int .i64 t715)).setCell ⟨go72, (t708 : Int).toNat * 6 + 5, none⟩ (.int .i64 t716)).heap[gb679]? = some (.cells #[.string a1_0, .slice A1_1 l1_1.length c1_1] 39 (0, 0))) := ⟨by (with_reducible repeat (first | refine blk_drewN ?_ _ | refine blk_drew ?_ | refine blk_alloc ?_ _)); refine blk_far ?_ (by have h_ := Kd.R_ne HO684.out BK679.out (by decide); intro e_; exact h_ (by rw [e_]; rfl)) _; (with_reducible repeat (first | refine blk_drewN ?_ _ | refine blk_drew ?_ | refine blk_alloc ?_ _)); refine blk_far ?_ (by have h_ := Kd.R_ne HO684.out BK679.out (by decide); intro e_; exact h_ (by rw [e_]; rfl)) _; (with_reducible repeat (first | refine blk_drewN ?_ _ | refine blk_drew ?_ | refine blk_alloc ?_ _)); refine blk_far ?_ (by have h_ := Kd.R_ne HO684.out BK679.out (by decide); intro e_; exact h_ (by rw [e_]; rfl)) _; (with_reducible repeat (first | refine blk_drewN ?_ _ | refine blk_drew ?_ | refine blk_alloc ?_ _)); refine blk_far ?_ (by have h_ := Kd.R_ne HO684.out BK679.out (by decide); intro e_; exact h_ (by rw [e_]; rfl)) _; (with_reducible repeat (first | refine blk_drewN ?_ _ | refine blk_drew ?_ | refine blk_alloc ?_ _)); refine blk_far ?_ (by have h_ := Kd.R_ne HO684.out BK679.out (by decide); intro e_; exact h_ (by rw [e_]; rfl)) _; (with_reducible repeat (first | refine blk_drewN ?_ _ | refine blk_drew ?_ | refine blk_alloc ?_ _)); refine blk_far ?_ (by have h_ := Kd.R_ne HO684.out BK679.out (by decide); intro e_; exact h_ (by rw [e_]; rfl)) _; (with_reducible repeat (first | refine blk_drewN ?_ _ | refine blk_drew ?_ | refine blk_alloc ?_ _)); exact BK679.out⟩
      have n2 : Aside0 (((((((w89.setCell ⟨go72, (t708 : Int).toNat * 6, none⟩ (.int .i64 t711)).setCell ⟨go72, (t708 : Int).toNat * 6 + 1, none⟩ (.int .i64 t712)).setCell ⟨go72, (t708 : Int).toNat * 6 + 2, none⟩ (.int .i64 t713)).setCell ⟨go72, (t708 : Int).toNat * 6 + 3, none⟩ (.int .i64 t714)).setCell ⟨go72, (t708 : Int).toNat * 6 + 4, none⟩ (.int .i64 t715)).setCell ⟨go72, (t708 : Int).toNat * 6 + 5, none⟩ (.int .i64 t716)).heap[gb680]? = some (.cells #[.string (⟨#[]⟩ : ByteArray), .slice none 0 0] 39 (0, 0))) := ⟨by (with_reducible repeat (first | refine blk_drewN ?_ _ | refine blk_drew ?_ | refine blk_alloc ?_ _)); refine blk_far ?_ (by have h_ := Kd.R_ne HO684.out BK680.out (by decide); intro e_; exact h_ (by rw [e_]; rfl)) _; (with_reducible repeat (first | refine blk_drewN ?_ _ | refine blk_drew ?_ | refine blk_alloc ?_ _)); refine blk_far ?_ (by have h_ := Kd.R_ne HO684.out BK680.out (by decide); intro e_; exact h_ (by rw [e_]; rfl)) _; (with_reducible repeat (first | refine blk_drewN ?_ _ | refine blk_drew ?_ | refine blk_alloc ?_ _)); refine blk_far ?_ (by have h_ := Kd.R_ne HO684.out BK680.out (by decide); intro e_; exact h_ (by rw [e_]; rfl)) _; (with_reducible repeat (first | refine blk_drewN ?_ _ | refine blk_drew ?_ | refine blk_alloc ?_ _)); refine blk_far ?_ (by have h_ := Kd.R_ne HO684.out BK680.out (by decide); intro e_; exact h_ (by rw [e_]; rfl)) _; (with_reducible repeat (first | refine blk_drewN ?_ _ | refine blk_drew ?_ | refine blk_alloc ?_ _)); refine blk_far ?_ (by have h_ := Kd.R_ne HO684.out BK680.out (by decide); intro e_; exact h_ (by rw [e_]; rfl)) _; (with_reducible repeat (first | refine blk_drewN ?_ _ | refine blk_drew ?_ | refine blk_alloc ?_ _)); refine blk_far ?_ (by have h_ := Kd.R_ne HO684.out BK680.out (by decide); intro e_; exact h_ (by rw [e_]; rfl)) _; (with_reducible repeat (first | refine blk_drewN ?_ _ | refine blk_drew ?_ | refine blk_alloc ?_ _)); exact BK680.out⟩
      have n3 : Aside0 (((((((w89.setCell ⟨go72, (t708 : Int).toNat * 6, none⟩ (.int .i64 t711)).setCell ⟨go72, (t708 : Int).toNat * 6 + 1, none⟩ (.int .i64 t712)).setCell ⟨go72, (t708 : Int).toNat * 6 + 2, none⟩ (.int .i64 t713)).setCell ⟨go72, (t708 : Int).toNat * 6 + 3, none⟩ (.int .i64 t714)).setCell ⟨go72, (t708 : Int).toNat * 6 + 4, none⟩ (.int .i64 t715)).setCell ⟨go72, (t708 : Int).toNat * 6 + 5, none⟩ (.int .i64 t716)).heap[gb685]? = some (.cells #[.string t681, .slice (some ⟨go72, 0, none⟩) t682.length co84] 39 (0, 0))) := ⟨by (with_reducible repeat (first | refine blk_drewN ?_ _ | refine blk_drew ?_ | refine blk_alloc ?_ _)); refine blk_far ?_ (by have h_ := Kd.R_ne HO684.out BK685.out (by decide); intro e_; exact h_ (by rw [e_]; rfl)) _; (with_reducible repeat (first | refine blk_drewN ?_ _ | refine blk_drew ?_ | refine blk_alloc ?_ _)); refine blk_far ?_ (by have h_ := Kd.R_ne HO684.out BK685.out (by decide); intro e_; exact h_ (by rw [e_]; rfl)) _; (with_reducible repeat (first | refine blk_drewN ?_ _ | refine blk_drew ?_ | refine blk_alloc ?_ _)); refine blk_far ?_ (by have h_ := Kd.R_ne HO684.out BK685.out (by decide); intro e_; exact h_ (by rw [e_]; rfl)) _; (with_reducible repeat (first | refine blk_drewN ?_ _ | refine blk_drew ?_ | refine blk_alloc ?_ _)); refine blk_far ?_ (by have h_ := Kd.R_ne HO684.out BK685.out (by decide); intro e_; exact h_ (by rw [e_]; rfl)) _; (with_reducible repeat (first | refine blk_drewN ?_ _ | refine blk_drew ?_ | refine blk_alloc ?_ _)); refine blk_far ?_ (by have h_ := Kd.R_ne HO684.out BK685.out (by decide); intro e_; exact h_ (by rw [e_]; rfl)) _; (with_reducible repeat (first | refine blk_drewN ?_ _ | refine blk_drew ?_ | refine blk_alloc ?_ _)); refine blk_far ?_ (by have h_ := Kd.R_ne HO684.out BK685.out (by decide); intro e_; exact h_ (by rw [e_]; rfl)) _; (with_reducible repeat (first | refine blk_drewN ?_ _ | refine blk_drew ?_ | refine blk_alloc ?_ _)); exact BK685.out⟩
      have n4 : Aside0 (IsS90 w0 ((((((w89.setCell ⟨go72, (t708 : Int).toNat * 6, none⟩ (.int .i64 t711)).setCell ⟨go72, (t708 : Int).toNat * 6 + 1, none⟩ (.int .i64 t712)).setCell ⟨go72, (t708 : Int).toNat * 6 + 2, none⟩ (.int .i64 t713)).setCell ⟨go72, (t708 : Int).toNat * 6 + 3, none⟩ (.int .i64 t714)).setCell ⟨go72, (t708 : Int).toNat * 6 + 4, none⟩ (.int .i64 t715)).setCell ⟨go72, (t708 : Int).toNat * 6 + 5, none⟩ (.int .i64 t716)) g s0_0 t717) := ⟨by repeat (first | (with_reducible first | exact HI0.out | apply IsS90.alloc | apply IsS90.drewN | apply IsS90.drew | apply IsS90.set_1 | refine IsS90.far ?_ HN0_go72.out _ | refine IsS90.far ?_ HN0_go72.out _ | refine IsS90.far ?_ HN0_go72.out _ | refine IsS90.far ?_ HN0_go72.out _ | refine IsS90.far ?_ HN0_go72.out _ | refine IsS90.far ?_ HN0_go72.out _ | refine IsS90.far ?_ NB0_679.out _ | refine IsS90.far ?_ NB0_680.out _ | refine IsS90.far ?_ NB0_685.out _) | exact HI0.out)⟩
      have n5 : Aside0 (KeepBut w ((((((w89.setCell ⟨go72, (t708 : Int).toNat * 6, none⟩ (.int .i64 t711)).setCell ⟨go72, (t708 : Int).toNat * 6 + 1, none⟩ (.int .i64 t712)).setCell ⟨go72, (t708 : Int).toNat * 6 + 2, none⟩ (.int .i64 t713)).setCell ⟨go72, (t708 : Int).toNat * 6 + 3, none⟩ (.int .i64 t714)).setCell ⟨go72, (t708 : Int).toNat * 6 + 4, none⟩ (.int .i64 t715)).setCell ⟨go72, (t708 : Int).toNat * 6 + 5, none⟩ (.int .i64 t716)) g none) := ⟨by repeat (first | (with_reducible first | exact HK.out | apply KeepBut.set_ | apply keep_drewN | apply keep_drew | apply keep_alloc | refine keep_far ?_ GB72.out _ | refine keep_far ?_ GB72.out _ | refine keep_far ?_ GB72.out _ | refine keep_far ?_ GB72.out _ | refine keep_far ?_ GB72.out _ | refine keep_far ?_ GB72.out _ | refine keep_far ?_ GW679.out _ | refine keep_far ?_ GW680.out _ | refine keep_far ?_ GW685.out _) | exact HK.out)⟩
      have n6 : Aside0 (Below w0.heap.size w0 ((((((w89.setCell ⟨go72, (t708 : Int).toNat * 6, none⟩ (.int .i64 t711)).setCell ⟨go72, (t708 : Int).toNat * 6 + 1, none⟩ (.int .i64 t712)).setCell ⟨go72, (t708 : Int).toNat * 6 + 2, none⟩ (.int .i64 t713)).setCell ⟨go72, (t708 : Int).toNat * 6 + 3, none⟩ (.int .i64 t714)).setCell ⟨go72, (t708 : Int).toNat * 6 + 4, none⟩ (.int .i64 t715)).setCell ⟨go72, (t708 : Int).toNat * 6 + 5, none⟩ (.int .i64 t716))) := ⟨by repeat (first | (with_reducible first | exact HB.out | apply below_alloc | apply pw_below_drewN | apply below_drew1 | refine below_set ?_ (Nat.le_trans HL.out GB72.out) | refine below_set ?_ (Nat.le_trans HL.out GB72.out) | refine below_set ?_ (Nat.le_trans HL.out GB72.out) | refine below_set ?_ (Nat.le_trans HL.out GB72.out) | refine below_set ?_ (Nat.le_trans HL.out GB72.out) | refine below_set ?_ (Nat.le_trans HL.out GB72.out) | refine below_set ?_ (IsS90.ge HI0.out) | refine below_set ?_ GE679.out | refine below_set ?_ GE680.out | refine below_set ?_ GE685.out) | exact HB.out)⟩
      (try clear HO684)
      (try clear BK679)
      (try clear BK680)
      (try clear BK685)
      (try clear HI0)
      (try clear HK)
      (try clear HB)
      generalize ((((((w89.setCell ⟨go72, (t708 : Int).toNat * 6, none⟩ (.int .i64 t711)).setCell ⟨go72, (t708 : Int).toNat * 6 + 1, none⟩ (.int .i64 t712)).setCell ⟨go72, (t708 : Int).toNat * 6 + 2, none⟩ (.int .i64 t713)).setCell ⟨go72, (t708 : Int).toNat * 6 + 3, none⟩ (.int .i64 t714)).setCell ⟨go72, (t708 : Int).toNat * 6 + 4, none⟩ (.int .i64 t715)).setCell ⟨go72, (t708 : Int).toNat * 6 + 5, none⟩ (.int .i64 t716)) = w91 at n0 n1 n2 n3 n4 n5 n6 ⊢
      have HO684 := n0
      have BK679 := n1
      have BK680 := n2
      have BK685 := n3
      have HI0 := n4
      have HK := n5
      have HB := n6
      clear n0 n1 n2 n3 n4 n5 n6
      obtain ⟨hcz92_0, hcz92_1, hfz92_0, hfz92_1⟩ := zc2 BK685
      have hnb93 := NB680_0.out
      have hnc93 := NB0_680.out
      obtain ⟨hcz94_0, hcz94_1, hfz94_0, hfz94_1⟩ := zc2 BK680
      try go_wp2
      refine bodyPost_ret (results_cell_row rfl _ _ gb680 39 #[.string t681, .slice (some ⟨go72, 0, none⟩) t682.length co84] (0, 0) _ rfl (bp BK680) Try.underlying39 rfl (by kernel_rfl)) rfl ?_
      exact ⟨_, re, by (with_reducible repeat (first | apply Kd.R_alloc | apply Kd.R_drewN | apply Kd.R_drew)); exact Kd.R_mono (rf (Kd.R_types HO684.out BK680.out (by decide))) (fun _ hk => trivial), by exact qi HI0, by exact qb HI0 HB, by exact qk _ _ _ HK⟩
     ·rw [if_neg c70] at H
      exact absurd H (by simp)
    ·rw [if_neg c69] at H
     exact absurd H (by simp)
   ·rw [if_neg c67] at H
    have c67b0 : decide (0 < (t682.length : Int)) = false := decide_eq_false c67
    have c67b1 : decide (0 < t682.length) = false := decide_eq_false (by omega)
    clear c67
    simp only [Option.some.injEq, Prod.mk.injEq] at H
    obtain ⟨rfl, rfl, rfl⟩ := H
    go_enter Try.func73, Try.ntmps73
    go_wp2_with (first | ((with_reducible refine gate_dst (N := 3) rfl ?_); refine be 3 #[.string a1_0, .slice A1_1 l1_1.length c1_1] 39 ?_; intro gb679 hg w95 hbox hb; have _ := ra (IsS90.below (qi HI0) hb); have _ := kt (qk _ _ _ HK) hb; have _ := ra (below_step (qb HI0 HB) hb); have _ := ra (hbox); have _ := ns hg (qk w _ g HK); have _ := nt hg HW0 (qk w _ g HK); have _ := nl hg (qi HI0); have _ := nr hg (qi HI0); clear HI0 HK HB; rename_i HI0 HK HB BK679 GW679 GE679 NB0_679 NB679_0; clear hb hbox hg) | ((with_reducible refine gate_dst (N := 4) rfl ?_); refine be 4 #[.string (⟨#[]⟩ : ByteArray), .slice none 0 0] 39 ?_; intro gb680 hg w96 hbox hb; have _ := ra (IsS90.below (qi HI0) hb); have _ := bb (bk BK679) hb; have _ := kt (qk _ _ _ HK) hb; have _ := ra (below_step (qb HI0 HB) hb); have _ := ra (hbox); have _ := ns hg (qk w _ g HK); have _ := nt hg HW0 (qk w _ g HK); have _ := bn hg (bk BK679); have _ := bm hg (bk BK679); have _ := nl hg (qi HI0); have _ := nr hg (qi HI0); clear HI0 BK679 HK HB; rename_i HI0 BK679 HK HB BK680 GW680 GE680 NB679_680 NB680_679 NB0_680 NB680_0; clear hb hbox hg; have hnb97 := NB679_680.out; have hnc97 := NB680_679.out; have hnb98 := NB679_0.out; have hnc98 := NB0_679.out; obtain ⟨hcz99_0, hcz99_1, hfz99_0, hfz99_1⟩ := zc2 BK679) | ((with_reducible refine gate_callee (f := 67) rfl ?_); refine gl (some 9) Try.func67 #[.agg #[.string a1_0, .slice A1_1 l1_1.length c1_1]] ?_; (with_reducible refine (spec_l2Copy.calls a1_0 _ _ l1_1 t681 t682 _ ?side1 ?side2 A3.out).mono ?_); (case side1 => exact Kd.C_foot_now HR1_1.out (qk _ _ _ HK)); (case side2 => exact HC1_1.out); rintro e w100 ⟨v683, rfl, ho0, hb⟩; refine ⟨_, rfl, ?_⟩; have _ := ra (Kd.R_lower ho0 (keep_size (w := w) (g := g) (row := none) (qk _ _ _ HK))); have _ := ra (IsS90.below (qi HI0) hb); have _ := bb (bk BK679) hb; have _ := bb (bk BK680) hb; have _ := kt (qk _ _ _ HK) hb; have _ := ra (below_step (qb HI0 HB) hb); clear HI0 BK679 BK680 HK HB; rename_i HO684 HI0 BK679 BK680 HK HB; (try clear hb); (try clear hb2); (try clear hk); (try clear hi); (try clear ho0)) | ((with_reducible refine gate_dst (N := 5) rfl ?_); refine be 5 #[.string (⟨#[]⟩ : ByteArray), .slice none 0 0] 39 ?_; intro gb685 hg w101 hbox hb; have _ := ra (Kd.R_below (rq HO684) hb); have _ := ra (IsS90.below (qi HI0) hb); have _ := bb (bk BK679) hb; have _ := bb (bk BK680) hb; have _ := kt (qk _ _ _ HK) hb; have _ := ra (below_step (qb HI0 HB) hb); have _ := ra (hbox); have _ := ns hg (qk w _ g HK); have _ := nt hg HW0 (qk w _ g HK); have _ := bn hg (bk BK679); have _ := bm hg (bk BK679); have _ := bn hg (bk BK680); have _ := bm hg (bk BK680); have _ := nl hg (qi HI0); have _ := nr hg (qi HI0); clear HO684 HI0 BK679 BK680 HK HB; rename_i HO684 HI0 BK679 BK680 HK HB BK685 GW685 GE685 NB679_685 NB685_679 NB680_685 NB685_680 NB0_685 NB685_0; clear hb hbox hg; have hnb102 := NB685_679.out; have hnc102 := NB679_685.out; have hnb103 := NB685_680.out; have hnc103 := NB680_685.out; have hnb104 := NB685_0.out; have hnc104 := NB0_685.out; obtain ⟨hcz105_0, hcz105_1, hfz105_0, hfz105_1⟩ := zc2 BK685; obtain ⟨Ao106, co106, eo106⟩ := Kd.R_slice HO684.out; subst eo106) | ((with_reducible refine gate_callee (f := 65) rfl ?_); refine gl (some 11) Try.func65 #[.pointer (some ⟨g, 0, none⟩), .int .i64 4] ?_; (with_reducible refine (spec_l1Rd_pick.calls k g s0_0 s0_1 4 t686 t687 w0 _ ?side1 ?side2 A4.out).mono ?_); (case side1 => exact qi HI0); (case side2 => exact qb HI0 HB); rintro e w107 ⟨rfl, hi, hb, hk⟩; refine ⟨_, rfl, ?_⟩; have _ := kv hk (bk BK679) NB679_0; have _ := kv hk (bk BK680) NB680_0; have _ := ra (Kd.R_mono (Kd.R_keep (IsS90.apart (show IsS90 w0 _ g s0_0 s0_1 from qi HI0) (Kd.R_mono (rf (Kd.R_types HO684.out BK685.out (by decide))) (fun _ h_ => h_.1)) (by decide)) hk (fun _ h => h.2)) (fun _ h => h.1)); have _ := ra (KeepBut.blk hk (g' := gb685) (o := .cells #[.string t681, .slice Ao106 t682.length co106] 39 (0, 0)) (bp BK685) NB685_0.out (by simp)); have _ := ku (qk _ _ _ HK) hk; have _ := ra (hb); have _ := ra (hi); clear BK679 BK680 HO684 BK685 HK HB HI0; rename_i BK679 BK680 HO684 BK685 HK HB HI0; (try clear hb); (try clear hb2); (try clear hk); (try clear hi); obtain ⟨hcz108_0, hcz108_1, hfz108_0, hfz108_1⟩ := zc2 BK685; have hnb109 := NB680_0.out; have hnc109 := NB0_680.out; obtain ⟨hcz110_0, hcz110_1, hfz110_0, hfz110_1⟩ := zc2 BK680))
    refine bodyPost_ret (results_cell_row rfl _ _ gb680 39 #[.string t681, .slice Ao106 t682.length co106] (0, 0) _ rfl (bp BK680) Try.underlying39 rfl (by kernel_rfl)) rfl ?_
    exact ⟨_, re, by (with_reducible repeat (first | apply Kd.R_alloc | apply Kd.R_drewN | apply Kd.R_drew)); exact Kd.R_mono (rf (Kd.R_types HO684.out BK680.out (by decide))) (fun _ hk => trivial), by exact qi HI0, by exact qb HI0 HB, by exact qk _ _ _ HK⟩
set_option maxHeartbeats 8000000 in
set_option maxRecDepth 100000 in
theorem spec_l2Any.calls (k : Nat) (g : Nat) (s0_0 : List Int) (s0_1 : Int) (r1 : ByteArray) (r2 : List (S26)) (r3 : Int) (w0 w : World) (hI : IsS90 w0 w g s0_0 s0_1) (hB : Below w0.heap.size w0 w) (h : spec_l2Any.f k s0_0 s0_1 = some (r1, r2, r3)) :
  Calls Try.prog 64 #[.pointer (some ⟨g, 0, none⟩)] w fun e w' => ∃ v1_ : Value, e = .returned (.agg #[.string r1, v1_]) ∧ Kd.R k26 26 w' w.heap.size (fun _ => True) v1_ r2 ∧ IsS90 w0 w' g s0_0 r3 ∧ Below w0.heap.size w0 w' ∧ KeepBut w w' g none := by
 have hu39 := Try.underlying39
 have HI0 := Aside0.mk hI
 have HK := ra (KeepBut.refl w g none)
 have HL := Aside0.mk hB.size
 clear hI
 have HW0 := Aside0.mk hB.size
 have HB := Aside0.mk hB
 clear hB
 have H : ((spec_l1Rd_of.f k s0_0 s0_1 (([(⟨#[97, 49]⟩ : ByteArray), (⟨#[98]⟩ : ByteArray), (⟨#[99, 45, 99]⟩ : ByteArray), (⟨#[113]⟩ : ByteArray)] : List ByteArray))).bind fun bt723 => ((spec_l2Tube.f k s0_0 bt723.2 bt723.1).bind fun bt725 => ((spec_l1Rd_pick.f k s0_0 bt725.2.2 14).bind fun bt731 => (if bt731.1 = 0 then ((spec_l2SpoilTube.f k s0_0 bt731.2 bt725.1 bt725.2.1).bind fun bt733 => (some (bt733.1, bt733.2.1, bt733.2.2))) else (some (bt725.1, bt725.2.1, bt731.2)))))) = some (r1, r2, r3) := h
 clear h
 obtain ⟨y720, hy_⟩ : ∃ y_ : List ByteArray, y_ = (([(⟨#[97, 49]⟩ : ByteArray), (⟨#[98]⟩ : ByteArray), (⟨#[99, 45, 99]⟩ : ByteArray), (⟨#[113]⟩ : ByteArray)] : List ByteArray)) := ⟨_, rfl⟩
 replace H : ((spec_l1Rd_of.f k s0_0 s0_1 y720).bind fun bt723 => ((spec_l2Tube.f k s0_0 bt723.2 bt723.1).bind fun bt725 => ((spec_l1Rd_pick.f k s0_0 bt725.2.2 14).bind fun bt731 => (if bt731.1 = 0 then ((spec_l2SpoilTube.f k s0_0 bt731.2 bt725.1 bt725.2.1).bind fun bt733 => (some (bt733.1, bt733.2.1, bt733.2.2))) else (some (bt725.1, bt725.2.1, bt731.2)))))) = some (r1, r2, r3) := yh
 have Ny720 := ra hy_
 clear hy_
 obtain ⟨⟨t723, t724⟩, A2, H⟩ := bo H
 try dsimp only at H
 obtain ⟨⟨t725, t726, t729⟩, A3, H⟩ := bo H
 try dsimp only at H
 obtain ⟨⟨t731, t732⟩, A4, H⟩ := bo H
 try dsimp only at H
 by_cases c5 : t731 = 0
 ·rw [if_pos c5] at H
  have c5b0 : (t731 == 0) = true := beq_iff_eq.mpr c5
  have c5b1 : (t731 != 0) = false := bne_eq_false_iff_eq.mpr c5
  clear c5
  obtain ⟨⟨t733, t734, t737⟩, A6, H⟩ := bo H
  try dsimp only at H
  simp only [Option.some.injEq, Prod.mk.injEq] at H
  obtain ⟨rfl, rfl, rfl⟩ := H
  go_enter Try.func64, Try.ntmps64
  go_wp2_with (first | ((with_reducible refine gate_dst (N := 2) rfl ?_); refine be 2 #[.string (⟨#[]⟩ : ByteArray), .slice none 0 0] 39 ?_; intro gb719 hg w7 hbox hb; have _ := ra (IsS90.below (qi HI0) hb); have _ := kt (qk _ _ _ HK) hb; have _ := ra (below_step (qb HI0 HB) hb); have _ := ra (hbox); have _ := ns hg (qk w _ g HK); have _ := nt hg HW0 (qk w _ g HK); have _ := nl hg (qi HI0); have _ := nr hg (qi HI0); clear HI0 HK HB; rename_i HI0 HK HB BK719 GW719 GE719 NB0_719 NB719_0; clear hb hbox hg) | ((with_reducible refine gate_dst (N := 6) rfl ?_); refine Kd.R_lit Kd.string _ 9 ?hg (N := 6) ?hd (xs := ([(⟨#[97, 49]⟩ : ByteArray), (⟨#[98]⟩ : ByteArray), (⟨#[99, 45, 99]⟩ : ByteArray), (⟨#[113]⟩ : ByteArray)] : List ByteArray)) (inner := [.string (⟨#[97, 49]⟩ : ByteArray), .string (⟨#[98]⟩ : ByteArray), .string (⟨#[99, 45, 99]⟩ : ByteArray), .string (⟨#[113]⟩ : ByteArray)]) (ok := fun _ => True) (okp := fun _ => True) ?hr ?hp (fun _ hk => hk) trivial (Below.refl _ _) (Nat.le_refl _) (by simp) ?_; (case hd => rfl); (case hg => rfl); (case hr => first | (go_simp; done) | (go_simp; rfl)); (case hp => exact (Reps.one (show Kd.M Kd.string _ _ _ (⟨#[97, 49]⟩ : ByteArray) [.string (⟨#[97, 49]⟩ : ByteArray)] from rfl) (Reps.one (show Kd.M Kd.string _ _ _ (⟨#[98]⟩ : ByteArray) [.string (⟨#[98]⟩ : ByteArray)] from rfl) (Reps.one (show Kd.M Kd.string _ _ _ (⟨#[99, 45, 99]⟩ : ByteArray) [.string (⟨#[99, 45, 99]⟩ : ByteArray)] from rfl) (Reps.one (show Kd.M Kd.string _ _ _ (⟨#[113]⟩ : ByteArray) [.string (⟨#[113]⟩ : ByteArray)] from rfl) (Reps.none _ _)))))); intro v721 w8 ho9 hb hg_ hnew_; clear hg_ hnew_; (first | rw [← Ny720.out] at ho9 | (simp only [Int.reduceToNat] at ho9; rw [← Ny720.out] at ho9)); have _ := ra (Kd.R_lower ho9 (keep_size (w := w) (g := g) (row := none) (qk _ _ _ HK))); have _ := ra (IsS90.below (qi HI0) hb); have _ := bb (bk BK719) hb; have _ := kt (qk _ _ _ HK) hb; have _ := ra (below_step (qb HI0 HB) hb); clear HI0 BK719 HK HB; rename_i HO722 HI0 BK719 HK HB; clear hb ho9; obtain ⟨Ao10, co10, eo10⟩ := Kd.R_slice HO722.out; subst eo10) | ((with_reducible refine gate_callee (f := 72) rfl ?_); refine gl (some 7) Try.func72 #[.pointer (some ⟨g, 0, none⟩), .slice Ao10 y720.length co10] ?_; (with_reducible refine (spec_l1Rd_of.calls k g s0_0 s0_1 _ _ y720 t723 t724 w0 _ ?side1 ?side2 ?side3 ?side4 ?side5 A2.out).mono ?_); (case side1 => exact qi HI0); (case side2 => exact qb HI0 HB); (case side3 => exact sr HO722); (case side4 => exact (Kd.R_reads' HO722.out).2.1); (case side5 => exact far_slice (IsS90.own_ne HI0.out HO722.out (by decide))); rintro e w11 ⟨rfl, hi, hb, hk⟩; refine ⟨_, rfl, ?_⟩; have _ := kv hk (bk BK719) NB719_0; have _ := ra (Kd.R_mono (Kd.R_keep (IsS90.apart (show IsS90 w0 _ g s0_0 s0_1 from qi HI0) (rq HO722) (by decide)) hk (fun _ h => h.2)) (fun _ h => h.1)); have _ := ku (qk _ _ _ HK) hk; have _ := ra (hb); have _ := ra (hi); clear BK719 HO722 HK HB HI0; rename_i BK719 HO722 HK HB HI0; (try clear hb); (try clear hb2); (try clear hk); (try clear hi)) | ((with_reducible refine gate_callee (f := 71) rfl ?_); refine gl (some 8) Try.func71 #[.pointer (some ⟨g, 0, none⟩), .string t723] ?_; (with_reducible refine (spec_l2Tube.calls k g s0_0 t724 t723 t725 t726 t729 w0 _ ?side1 ?side2 A3.out).mono ?_); (case side1 => exact qi HI0); (case side2 => exact qb HI0 HB); rintro e w12 ⟨v727, rfl, ho0, hi, hb, hk⟩; refine ⟨_, rfl, ?_⟩; have _ := kv hk (bk BK719) NB719_0; have _ := ra (Kd.R_mono (Kd.R_keep (IsS90.apart (show IsS90 w0 _ g s0_0 t724 from qi HI0) (rq HO722) (by decide)) hk (fun _ h => h.2)) (fun _ h => h.1)); have _ := ra (Kd.R_lower ho0 (keep_size (w := w) (g := g) (row := none) (qk _ _ _ HK))); have _ := ku (qk _ _ _ HK) hk; have _ := ra (hb); have _ := ra (hi); clear BK719 HO722 HK HB HI0; rename_i BK719 HO722 HO728 HK HB HI0; (try clear hb); (try clear hb2); (try clear hk); (try clear hi); (try clear ho0)) | ((with_reducible refine gate_dst (N := 3) rfl ?_); refine be 3 #[.string (⟨#[]⟩ : ByteArray), .slice none 0 0] 39 ?_; intro gb730 hg w13 hbox hb; have _ := ra (Kd.R_below (rq HO722) hb); have _ := ra (Kd.R_below (rq HO728) hb); have _ := ra (IsS90.below (qi HI0) hb); have _ := bb (bk BK719) hb; have _ := kt (qk _ _ _ HK) hb; have _ := ra (below_step (qb HI0 HB) hb); have _ := ra (hbox); have _ := ns hg (qk w _ g HK); have _ := nt hg HW0 (qk w _ g HK); have _ := bn hg (bk BK719); have _ := bm hg (bk BK719); have _ := nl hg (qi HI0); have _ := nr hg (qi HI0); clear HO722 HO728 HI0 BK719 HK HB; rename_i HO722 HO728 HI0 BK719 HK HB BK730 GW730 GE730 NB719_730 NB730_719 NB0_730 NB730_0; clear hb hbox hg; have hnb14 := NB730_719.out; have hnc14 := NB719_730.out; have hnb15 := NB730_0.out; have hnc15 := NB0_730.out; obtain ⟨hcz16_0, hcz16_1, hfz16_0, hfz16_1⟩ := zc2 BK730; obtain ⟨Ao17, co17, eo17⟩ := Kd.R_slice HO728.out; subst eo17) | ((with_reducible refine gate_callee (f := 65) rfl ?_); refine gl (some 10) Try.func65 #[.pointer (some ⟨g, 0, none⟩), .int .i64 14] ?_; (with_reducible refine (spec_l1Rd_pick.calls k g s0_0 t729 14 t731 t732 w0 _ ?side1 ?side2 A4.out).mono ?_); (case side1 => exact qi HI0); (case side2 => exact qb HI0 HB); rintro e w18 ⟨rfl, hi, hb, hk⟩; refine ⟨_, rfl, ?_⟩; have _ := kv hk (bk BK719) NB719_0; have _ := ra (Kd.R_mono (Kd.R_keep (IsS90.apart (show IsS90 w0 _ g s0_0 t729 from qi HI0) (Kd.R_mono (rf (Kd.R_types HO722.out BK730.out (by decide))) (fun _ h_ => h_.1)) (by decide)) hk (fun _ h => h.2)) (fun _ h => h.1)); have _ := ra (Kd.R_mono (Kd.R_keep (IsS90.apart (show IsS90 w0 _ g s0_0 t729 from qi HI0) (Kd.R_mono (rf (Kd.R_types HO728.out BK730.out (by decide))) (fun _ h_ => h_.1)) (by decide)) hk (fun _ h => h.2)) (fun _ h => h.1)); have _ := ra (KeepBut.blk hk (g' := gb730) (o := .cells #[.string t725, .slice Ao17 t726.length co17] 39 (0, 0)) (bp BK730) NB730_0.out (by simp)); have _ := ku (qk _ _ _ HK) hk; have _ := ra (hb); have _ := ra (hi); clear BK719 HO722 HO728 BK730 HK HB HI0; rename_i BK719 HO722 HO728 BK730 HK HB HI0; (try clear hb); (try clear hb2); (try clear hk); (try clear hi); obtain ⟨hcz19_0, hcz19_1, hfz19_0, hfz19_1⟩ := zc2 BK730) | ((with_reducible refine gate_callee (f := 73) rfl ?_); refine gl (some 14) Try.func73 #[.pointer (some ⟨g, 0, none⟩), .agg #[.string t725, .slice Ao17 t726.length co17]] ?_; (with_reducible refine (spec_l2SpoilTube.calls k g s0_0 t732 t725 _ _ t726 t733 t734 t737 w0 _ ?side1 ?side2 ?side3 ?side4 A6.out).mono ?_); (case side1 => exact qi HI0); (case side2 => exact qb HI0 HB); (case side3 => exact Kd.C_foot_own (IsS90.apart (show IsS90 w0 _ g s0_0 t732 from qi HI0) (rq HO728) (by decide)) (fun _ h_ => h_.2)); (case side4 => exact (Kd.R_reads' HO728.out).2.1); rintro e w20 ⟨v735, rfl, ho0, hi, hb, hk⟩; refine ⟨_, rfl, ?_⟩; have _ := kv hk (bk BK719) NB719_0; have _ := ra (Kd.R_mono (Kd.R_keep (IsS90.apart (show IsS90 w0 _ g s0_0 t732 from qi HI0) (rq HO722) (by decide)) hk (fun _ h => h.2)) (fun _ h => h.1)); have _ := ra (Kd.R_mono (Kd.R_told (Kd.R_oldK (IsS90.apart (show IsS90 w0 _ g s0_0 t732 from qi HI0) (rq HO728) (by decide)) hk) (Kd.R_base ho0)) (fun _ h_ => h_.1)); have _ := kv hk (bk BK730) NB730_0; have _ := ra (Kd.R_lower (Kd.R_new' ho0 (Kd.R_lt (rq HO728))) (keep_size (w := w) (g := g) (row := none) (qk _ _ _ HK))); have _ := ku (qk _ _ _ HK) hk; have _ := ra (hb); have _ := ra (hi); clear BK719 HO722 HO728 BK730 HK HB HI0; rename_i BK719 HO722 HO728 BK730 HO736 HK HB HI0; (try clear hb); (try clear hb2); (try clear hk); (try clear hi); (try clear ho0); have hnb21 := NB719_0.out; have hnc21 := NB0_719.out; obtain ⟨hcz22_0, hcz22_1, hfz22_0, hfz22_1⟩ := zc2 BK719; obtain ⟨Ao23, co23, eo23⟩ := Kd.R_slice HO736.out; subst eo23))
  refine bodyPost_ret (results_cell_row rfl _ _ gb719 39 #[.string t733, .slice Ao23 t734.length co23] (0, 0) _ rfl (bp BK719) Try.underlying39 rfl (by kernel_rfl)) rfl ?_
  exact ⟨_, re, by (with_reducible repeat (first | apply Kd.R_alloc | apply Kd.R_drewN | apply Kd.R_drew)); exact Kd.R_mono (rf (Kd.R_types HO736.out BK719.out (by decide))) (fun _ hk => trivial), by exact qi HI0, by exact qb HI0 HB, by exact qk _ _ _ HK⟩
 ·rw [if_neg c5] at H
  have c5b0 : (t731 == 0) = false := beq_eq_false_iff_ne.mpr c5
  have c5b1 : (t731 != 0) = true := bne_iff_ne.mpr c5
  simp only [Option.some.injEq, Prod.mk.injEq] at H
  obtain ⟨rfl, rfl, rfl⟩ := H
  go_enter Try.func64, Try.ntmps64
  go_wp2_with (first | ((with_reducible refine gate_dst (N := 2) rfl ?_); refine be 2 #[.string (⟨#[]⟩ : ByteArray), .slice none 0 0] 39 ?_; intro gb719 hg w24 hbox hb; have _ := ra (IsS90.below (qi HI0) hb); have _ := kt (qk _ _ _ HK) hb; have _ := ra (below_step (qb HI0 HB) hb); have _ := ra (hbox); have _ := ns hg (qk w _ g HK); have _ := nt hg HW0 (qk w _ g HK); have _ := nl hg (qi HI0); have _ := nr hg (qi HI0); clear HI0 HK HB; rename_i HI0 HK HB BK719 GW719 GE719 NB0_719 NB719_0; clear hb hbox hg) | ((with_reducible refine gate_dst (N := 6) rfl ?_); refine Kd.R_lit Kd.string _ 9 ?hg (N := 6) ?hd (xs := ([(⟨#[97, 49]⟩ : ByteArray), (⟨#[98]⟩ : ByteArray), (⟨#[99, 45, 99]⟩ : ByteArray), (⟨#[113]⟩ : ByteArray)] : List ByteArray)) (inner := [.string (⟨#[97, 49]⟩ : ByteArray), .string (⟨#[98]⟩ : ByteArray), .string (⟨#[99, 45, 99]⟩ : ByteArray), .string (⟨#[113]⟩ : ByteArray)]) (ok := fun _ => True) (okp := fun _ => True) ?hr ?hp (fun _ hk => hk) trivial (Below.refl _ _) (Nat.le_refl _) (by simp) ?_; (case hd => rfl); (case hg => rfl); (case hr => first | (go_simp; done) | (go_simp; rfl)); (case hp => exact (Reps.one (show Kd.M Kd.string _ _ _ (⟨#[97, 49]⟩ : ByteArray) [.string (⟨#[97, 49]⟩ : ByteArray)] from rfl) (Reps.one (show Kd.M Kd.string _ _ _ (⟨#[98]⟩ : ByteArray) [.string (⟨#[98]⟩ : ByteArray)] from rfl) (Reps.one (show Kd.M Kd.string _ _ _ (⟨#[99, 45, 99]⟩ : ByteArray) [.string (⟨#[99, 45, 99]⟩ : ByteArray)] from rfl) (Reps.one (show Kd.M Kd.string _ _ _ (⟨#[113]⟩ : ByteArray) [.string (⟨#[113]⟩ : ByteArray)] from rfl) (Reps.none _ _)))))); intro v721 w25 ho26 hb hg_ hnew_; clear hg_ hnew_; (first | rw [← Ny720.out] at ho26 | (simp only [Int.reduceToNat] at ho26; rw [← Ny720.out] at ho26)); have _ := ra (Kd.R_lower ho26 (keep_size (w := w) (g := g) (row := none) (qk _ _ _ HK))); have _ := ra (IsS90.below (qi HI0) hb); have _ := bb (bk BK719) hb; have _ := kt (qk _ _ _ HK) hb; have _ := ra (below_step (qb HI0 HB) hb); clear HI0 BK719 HK HB; rename_i HO722 HI0 BK719 HK HB; clear hb ho26; obtain ⟨Ao27, co27, eo27⟩ := Kd.R_slice HO722.out; subst eo27) | ((with_reducible refine gate_callee (f := 72) rfl ?_); refine gl (some 7) Try.func72 #[.pointer (some ⟨g, 0, none⟩), .slice Ao27 y720.length co27] ?_; (with_reducible refine (spec_l1Rd_of.calls k g s0_0 s0_1 _ _ y720 t723 t724 w0 _ ?side1 ?side2 ?side3 ?side4 ?side5 A2.out).mono ?_); (case side1 => exact qi HI0); (case side2 => exact qb HI0 HB); (case side3 => exact sr HO722); (case side4 => exact (Kd.R_reads' HO722.out).2.1); (case side5 => exact far_slice (IsS90.own_ne HI0.out HO722.out (by decide))); rintro e w28 ⟨rfl, hi, hb, hk⟩; refine ⟨_, rfl, ?_⟩; have _ := kv hk (bk BK719) NB719_0; have _ := ra (Kd.R_mono (Kd.R_keep (IsS90.apart (show IsS90 w0 _ g s0_0 s0_1 from qi HI0) (rq HO722) (by decide)) hk (fun _ h => h.2)) (fun _ h => h.1)); have _ := ku (qk _ _ _ HK) hk; have _ := ra (hb); have _ := ra (hi); clear BK719 HO722 HK HB HI0; rename_i BK719 HO722 HK HB HI0; (try clear hb); (try clear hb2); (try clear hk); (try clear hi)) | ((with_reducible refine gate_callee (f := 71) rfl ?_); refine gl (some 8) Try.func71 #[.pointer (some ⟨g, 0, none⟩), .string t723] ?_; (with_reducible refine (spec_l2Tube.calls k g s0_0 t724 t723 t725 t726 t729 w0 _ ?side1 ?side2 A3.out).mono ?_); (case side1 => exact qi HI0); (case side2 => exact qb HI0 HB); rintro e w29 ⟨v727, rfl, ho0, hi, hb, hk⟩; refine ⟨_, rfl, ?_⟩; have _ := kv hk (bk BK719) NB719_0; have _ := ra (Kd.R_mono (Kd.R_keep (IsS90.apart (show IsS90 w0 _ g s0_0 t724 from qi HI0) (rq HO722) (by decide)) hk (fun _ h => h.2)) (fun _ h => h.1)); have _ := ra (Kd.R_lower ho0 (keep_size (w := w) (g := g) (row := none) (qk _ _ _ HK))); have _ := ku (qk _ _ _ HK) hk; have _ := ra (hb); have _ := ra (hi); clear BK719 HO722 HK HB HI0; rename_i BK719 HO722 HO728 HK HB HI0; (try clear hb); (try clear hb2); (try clear hk); (try clear hi); (try clear ho0)) | ((with_reducible refine gate_dst (N := 3) rfl ?_); refine be 3 #[.string (⟨#[]⟩ : ByteArray), .slice none 0 0] 39 ?_; intro gb730 hg w30 hbox hb; have _ := ra (Kd.R_below (rq HO722) hb); have _ := ra (Kd.R_below (rq HO728) hb); have _ := ra (IsS90.below (qi HI0) hb); have _ := bb (bk BK719) hb; have _ := kt (qk _ _ _ HK) hb; have _ := ra (below_step (qb HI0 HB) hb); have _ := ra (hbox); have _ := ns hg (qk w _ g HK); have _ := nt hg HW0 (qk w _ g HK); have _ := bn hg (bk BK719); have _ := bm hg (bk BK719); have _ := nl hg (qi HI0); have _ := nr hg (qi HI0); clear HO722 HO728 HI0 BK719 HK HB; rename_i HO722 HO728 HI0 BK719 HK HB BK730 GW730 GE730 NB719_730 NB730_719 NB0_730 NB730_0; clear hb hbox hg; have hnb31 := NB730_719.out; have hnc31 := NB719_730.out; have hnb32 := NB730_0.out; have hnc32 := NB0_730.out; obtain ⟨hcz33_0, hcz33_1, hfz33_0, hfz33_1⟩ := zc2 BK730; obtain ⟨Ao34, co34, eo34⟩ := Kd.R_slice HO728.out; subst eo34) | ((with_reducible refine gate_callee (f := 65) rfl ?_); refine gl (some 10) Try.func65 #[.pointer (some ⟨g, 0, none⟩), .int .i64 14] ?_; (with_reducible refine (spec_l1Rd_pick.calls k g s0_0 t729 14 t731 t732 w0 _ ?side1 ?side2 A4.out).mono ?_); (case side1 => exact qi HI0); (case side2 => exact qb HI0 HB); rintro e w35 ⟨rfl, hi, hb, hk⟩; refine ⟨_, rfl, ?_⟩; have _ := kv hk (bk BK719) NB719_0; have _ := ra (Kd.R_mono (Kd.R_keep (IsS90.apart (show IsS90 w0 _ g s0_0 t729 from qi HI0) (Kd.R_mono (rf (Kd.R_types HO722.out BK730.out (by decide))) (fun _ h_ => h_.1)) (by decide)) hk (fun _ h => h.2)) (fun _ h => h.1)); have _ := ra (Kd.R_mono (Kd.R_keep (IsS90.apart (show IsS90 w0 _ g s0_0 t729 from qi HI0) (Kd.R_mono (rf (Kd.R_types HO728.out BK730.out (by decide))) (fun _ h_ => h_.1)) (by decide)) hk (fun _ h => h.2)) (fun _ h => h.1)); have _ := ra (KeepBut.blk hk (g' := gb730) (o := .cells #[.string t725, .slice Ao34 t726.length co34] 39 (0, 0)) (bp BK730) NB730_0.out (by simp)); have _ := ku (qk _ _ _ HK) hk; have _ := ra (hb); have _ := ra (hi); clear BK719 HO722 HO728 BK730 HK HB HI0; rename_i BK719 HO722 HO728 BK730 HK HB HI0; (try clear hb); (try clear hb2); (try clear hk); (try clear hi); obtain ⟨hcz36_0, hcz36_1, hfz36_0, hfz36_1⟩ := zc2 BK730; have hnb37 := NB719_0.out; have hnc37 := NB0_719.out; obtain ⟨hcz38_0, hcz38_1, hfz38_0, hfz38_1⟩ := zc2 BK719))
  refine bodyPost_ret (results_cell_row rfl _ _ gb719 39 #[.string t725, .slice Ao34 t726.length co34] (0, 0) _ rfl (bp BK719) Try.underlying39 rfl (by kernel_rfl)) rfl ?_
  exact ⟨_, re, by (with_reducible repeat (first | apply Kd.R_alloc | apply Kd.R_drewN | apply Kd.R_drew)); exact Kd.R_mono (rf (Kd.R_types HO728.out BK719.out (by decide))) (fun _ hk => trivial), by exact qi HI0, by exact qb HI0 HB, by exact qk _ _ _ HK⟩
end Go.Proofs.Ytfoapgcnjnogiaa.PA
