/- Contracts of the functions laws_wClashes, impl_copyTube, impl_copyTubes, impl_ProbeHappen. (Began as a print of the kit's tool.) -/
import Derived.Test.YtdbomnhdpniigaaPAd
import Derived.Test.YtdbomnhdpniigaaCx
import Derived.Test.YtdbomnhdpniigaaSrch
import Derived.Test.YtdbomnhdpniigaaIns
import Derived.Test.YtdbomnhdpniigaaCy
import Derived.Test.YtdbomnhdpniigaaGSky
import Derived.Test.YtdbomnhdpniigaaGBase
namespace Go.Proofs.Ytdbomnhdpniigaa.PA
open Go.RowKit Go.Proofs.YtdbomnhdpniigaaW.PrintWords Go.Proofs.YtdbomnhdpniigaaW.PrintLast Go.Proofs.YtdbomnhdpniigaaW.PrintMore Go.Proofs.Ytdbomnhdpniigaa.Z
attribute [local go_sem] max2_int min2_int max_two min_two max_three min_three max_four min_four
set_option linter.unusedVariables false
set_option linter.unusedSimpArgs false
attribute [local go_sem high] eqA49
set_option maxHeartbeats 8000000 in
set_option maxRecDepth 100000 in
theorem laws_wClashes.calls (k : Nat) (A0 : Option Addr) (c0 : Nat) (l0 : List (S49)) (A1 : Option Addr) (c1 : Nat) (l1 : List (S49)) (r : Bool) (w : World) (hr0 : Kd.C k49 w A0 l0.length l0) (hc0 : l0.length ≤ c0) (hr1 : Kd.C k49 w A1 l1.length l1) (hc1 : l1.length ≤ c1) (h : laws_wClashes.f k l0 l1 = some r) :
  Calls Try.prog 25 #[.slice A0 l0.length c0, .slice A1 l1.length c1] w fun e w' => e = .returned (.bool r) ∧ Drawn0 w w' := by
 have hu49 := Try.underlying49
 have HR0 := Aside0.mk hr0
 have HC0 := Aside0.mk hc0
 clear hr0 hc0
 have HR1 := Aside0.mk hr1
 have HC1 := Aside0.mk hc1
 clear hr1 hc1
 have H : (if (l0.length : Int) = (l1.length : Int) then (laws_wClashes.l0 k l0 l1 0) else (some false)) = some r := h
 clear h
 by_cases c3 : (l0.length : Int) = (l1.length : Int)
 ·rw [if_pos c3] at H
  have c3b0 : ((l0.length : Int) == (l1.length : Int)) = true := beq_iff_eq.mpr c3
  have c3b1 : ((l0.length : Int) != (l1.length : Int)) = false := bne_eq_false_iff_eq.mpr c3
  have c3b2 : (l0.length == l1.length) = true := by first | simpa using c3 | (simp at c3 ⊢; omega)
  clear c3
  have H' := Aside0.mk H
  clear H
  go_enter Try.func25, Try.ntmps25
  go_wp2
  repeat (go_quiet (fail); try go_wp2)
  go_loopg [5] k (fun kq v5 w' => ∃ (x5_1 : Int), v5 = .int .i64 x5_1 ∧ Aside0 (laws_wClashes.l0 kq l0 l1 x5_1 = some r) ∧ Aside0 (kq ≤ k) ∧ Drawn0 w w')
  case atStart => exact ⟨(0), rs, H', ⟨Nat.le_refl _⟩, by repeat (first | exact Drawn0.refl _ | apply Drawn0.step)⟩
  case round =>
   clear H'
   try clear c1
   try clear c3
   try clear c3b0
   try clear c3b1
   try clear c3b2
   obtain ⟨x5_1, rfl, HA, HK1, ⟨m1, rfl⟩⟩ := hrel
   cases gk with
   | zero => exact absurd HA.out (by simp [laws_wClashes.l0])
   | succ k1 =>
    have H := HA.out
    clear HA
    simp only [laws_wClashes.l0] at H
    by_cases c4 : x5_1 < (l0.length : Int)
    ·rw [if_pos c4] at H
     have c4b0 : decide (x5_1 < (l0.length : Int)) = true := decide_eq_true c4
     clear c4
     by_cases c5 : 0 ≤ x5_1
     ·rw [if_pos c5] at H
      have c5b0 : decide (0 ≤ x5_1) = true := decide_eq_true c5
      clear c5
      by_cases c6 : x5_1 < (l1.length : Int)
      ·rw [if_pos c6] at H
       have c6b0 : decide (x5_1 < (l1.length : Int)) = true := decide_eq_true c6
       clear c6
       by_cases c7 : (!((((rd_T49 l0 x5_1).f0).toList) == (((rd_T49 l1 x5_1).f0).toList)) || (!((((rd_T49 l0 x5_1).f1).toList) == (((rd_T49 l1 x5_1).f1).toList)) || (!(((rd_T49 l0 x5_1).f2) == ((rd_T49 l1 x5_1).f2)) || (!(((rd_T49 l0 x5_1).f3) == ((rd_T49 l1 x5_1).f3)) || (!(((rd_T49 l0 x5_1).f4) == ((rd_T49 l1 x5_1).f4))))))) = true
       ·rw [if_pos c7] at H
        have c7b0 : (!((((rd_T49 l0 x5_1).f0).toList) == (((rd_T49 l1 x5_1).f0).toList)) || (!((((rd_T49 l0 x5_1).f1).toList) == (((rd_T49 l1 x5_1).f1).toList)) || (!(((rd_T49 l0 x5_1).f2) == ((rd_T49 l1 x5_1).f2)) || (!(((rd_T49 l0 x5_1).f3) == ((rd_T49 l1 x5_1).f3)) || (!(((rd_T49 l0 x5_1).f4) == ((rd_T49 l1 x5_1).f4))))))) = true := c7
        clear c7
        obtain rfl := Option.some.inj H
        have p630 : 0 ≤ (x5_1 : Int) := od
        have q630 : x5_1 < (l0.length : Int) := od
        obtain ⟨ad630, e630, hx630_0, hx630_1, hx630_2, hx630_3, hx630_4⟩ := at_T49 HR0.out x5_1 p630 q630
        cases e630
        replace p630 := eq_true p630
        replace q630 := eq_true q630
        have p631 : 0 ≤ (x5_1 : Int) := od
        have q631 : x5_1 < (l1.length : Int) := od
        obtain ⟨ad631, e631, hx631_0, hx631_1, hx631_2, hx631_3, hx631_4⟩ := at_T49 HR1.out x5_1 p631 q631
        cases e631
        replace p631 := eq_true p631
        replace q631 := eq_true q631
        go_wp2
        repeat (go_quiet (fail); try go_wp2)
        go_ret
        exact ⟨by first | rfl | (simp; done) | (simp [*]; done), by repeat (first | exact Drawn0.refl _ | apply Drawn0.step)⟩
       ·rw [if_neg c7] at H
        have c7b0 : (!((((rd_T49 l0 x5_1).f0).toList) == (((rd_T49 l1 x5_1).f0).toList)) || (!((((rd_T49 l0 x5_1).f1).toList) == (((rd_T49 l1 x5_1).f1).toList)) || (!(((rd_T49 l0 x5_1).f2) == ((rd_T49 l1 x5_1).f2)) || (!(((rd_T49 l0 x5_1).f3) == ((rd_T49 l1 x5_1).f3)) || (!(((rd_T49 l0 x5_1).f4) == ((rd_T49 l1 x5_1).f4))))))) = false := by simpa using c7
        clear c7
        have H' := Aside0.mk H
        clear H
        have p630 : 0 ≤ (x5_1 : Int) := od
        have q630 : x5_1 < (l0.length : Int) := od
        obtain ⟨ad630, e630, hx630_0, hx630_1, hx630_2, hx630_3, hx630_4⟩ := at_T49 HR0.out x5_1 p630 q630
        cases e630
        replace p630 := eq_true p630
        replace q630 := eq_true q630
        have p631 : 0 ≤ (x5_1 : Int) := od
        have q631 : x5_1 < (l1.length : Int) := od
        obtain ⟨ad631, e631, hx631_0, hx631_1, hx631_2, hx631_3, hx631_4⟩ := at_T49 HR1.out x5_1 p631 q631
        cases e631
        replace p631 := eq_true p631
        replace q631 := eq_true q631
        go_wp2
        repeat (go_quiet (fail); try go_wp2)
        go_roundg k1
        case measure => have := HK1.out; omega
        case rel => exact ⟨(wrap64 (x5_1 + 1)), rs, H', ⟨by have := HK1.out; omega⟩, by repeat (first | exact Drawn0.refl _ | apply Drawn0.step)⟩
      ·rw [if_neg c6] at H
       exact absurd H (by simp)
     ·rw [if_neg c5] at H
      exact absurd H (by simp)
    ·rw [if_neg c4] at H
     have c4b0 : decide (x5_1 < (l0.length : Int)) = false := decide_eq_false c4
     clear c4
     obtain rfl := Option.some.inj H
     go_wp2
     repeat (go_quiet (fail); try go_wp2)
     go_ret
     exact ⟨by first | rfl | (simp; done) | (simp [*]; done), by repeat (first | exact Drawn0.refl _ | apply Drawn0.step)⟩
 ·rw [if_neg c3] at H
  have c3b0 : ((l0.length : Int) == (l1.length : Int)) = false := beq_eq_false_iff_ne.mpr c3
  have c3b1 : ((l0.length : Int) != (l1.length : Int)) = true := bne_iff_ne.mpr c3
  have c3b2 : (l0.length == l1.length) = false := by first | simpa using c3 | (simp at c3 ⊢; omega)
  obtain rfl := Option.some.inj H
  go_enter Try.func25, Try.ntmps25
  go_wp2
  repeat (go_quiet (fail); try go_wp2)
  go_ret
  exact ⟨by first | rfl | (simp; done) | (simp [*]; done), by repeat (first | exact Drawn0.refl _ | apply Drawn0.step)⟩
attribute [local go_sem high] eqA49
def impl_copyTube.T1 : Bool × List (List Nat × List Nat) := (true, [([], []), ([0], [0]), ([], []), ([], []), ([3], [3]), ([2, 4], [2, 4]), ([1, 5], [1, 5]), ([6, 5, 0, 1, 2, 3, 4, 5, 6], [6])])
def impl_copyTube.B1 : List Nat := [0, 1, 0, 0, 8, 28, 63, 127]
theorem impl_copyTube.tab1 : rtab .any (opsOf Try.f61 1) = impl_copyTube.T1 := by kernel_rfl
theorem impl_copyTube.bits1 : waitsOk impl_copyTube.T1.2 impl_copyTube.B1 = true := by kernel_rfl
set_option maxHeartbeats 8000000 in
set_option maxRecDepth 100000 in
theorem impl_copyTube.calls (a0_0 : ByteArray) (A0_1 : Option Addr) (c0_1 : Nat) (l0_1 : List (S95)) (r1 : ByteArray) (r2 : List (S95)) (w : World) (hr0_1 : Kd.C k95 w A0_1 l0_1.length l0_1) (hc0_1 : l0_1.length ≤ c0_1) (h : impl_copyTube.f a0_0 l0_1 = some (r1, r2)) :
  Calls Try.prog 61 #[.agg #[.string a0_0, .slice A0_1 l0_1.length c0_1]] w fun e w' => ∃ v1_ : Value, e = .returned (.agg #[.string r1, v1_]) ∧ Kd.R k95 95 w' w.heap.size (fun _ => True) v1_ r2 ∧ Below w.heap.size w w' := by
 have hu40 := Try.underlying40
 have HR0_1 := Aside0.mk hr0_1
 have HC0_1 := Aside0.mk hc0_1
 clear hr0_1 hc0_1
 have HB := ra (Below.refl w.heap.size w)
 have H : ((some (([] : List (S95)) : List (S95))).bind fun y640 => (if y640.length + l0_1.length < 2932031007402 then (some (a0_0, (y640 ++ l0_1))) else (none))) = some (r1, r2) := h
 clear h
 obtain ⟨y640, hy_⟩ : ∃ y_ : List (S95), y_ = (([] : List (S95))) := ⟨_, rfl⟩
 replace H : (if y640.length + l0_1.length < 2932031007402 then (some (a0_0, (y640 ++ l0_1))) else (none)) = some (r1, r2) := yh
 have Ny640 := ra hy_
 clear hy_
 by_cases c2 : y640.length + l0_1.length < 2932031007402
 ·rw [if_pos c2] at H
  have LMc2 := Aside0.mk c2
  clear c2
  obtain ⟨y643, hy_⟩ : ∃ y_ : List (S95), y_ = (y640 ++ l0_1) := ⟨_, rfl⟩
  replace H : (some (a0_0, y643)) = some (r1, r2) := yh
  have Ny643 := ra hy_
  clear hy_
  simp only [Option.some.injEq, Prod.mk.injEq] at H
  obtain ⟨rfl, rfl⟩ := H
  go_enter Try.func61, Try.ntmps61
  try go_wp2_with (first | ((with_reducible refine gate_dst (N := 1) rfl ?_); refine be 1 #[.string a0_0, .slice A0_1 l0_1.length c0_1] 40 ?_; intro gb638 hg w3 hbox hb; have _ := bs hb; have _ := ra (hbox); have _ := bz (w0 := w) hg; have _ := bz (w0 := w) hg; clear HB; rename_i HB BK638 GW638 GE638; clear hb hbox hg) | ((with_reducible refine gate_dst (N := 2) rfl ?_); refine be 2 #[.string (⟨#[]⟩ : ByteArray), .slice none 0 0] 40 ?_; intro gb639 hg w4 hbox hb; have _ := bb (bk BK638) hb; have _ := bs hb; have _ := ra (hbox); have _ := bz (w0 := w) hg; have _ := bz (w0 := w) hg; have _ := bn hg (bk BK638); have _ := bm hg (bk BK638); clear BK638 HB; rename_i BK638 HB BK639 GW639 GE639 NB638_639 NB639_638; clear hb hbox hg))
  have _ := ra (blk_drew BK638.out)
  have _ := ra (blk_drew BK639.out)
  have _ := ra (below_drew1 HB.out)
  clear BK638 BK639 HB
  rename_i BK638 BK639 HB
  refine start_ (n := 8) (S := fun w' => w'.cell? ⟨gb638, 0, none⟩ = some (.string a0_0) ∧ w'.cell? ⟨gb638, 1, none⟩ = some (.slice A0_1 l0_1.length c0_1)) (ds := []) (bl 8 0) (by kernel_rfl) rfl rfl ⟨(blk_cell BK638.out 0).trans rfl, (blk_cell BK638.out 1).trans rfl⟩ (fun hHeld => ?_); refine with_tabW impl_copyTube.tab1 impl_copyTube.bits1 (fun HT_ HW_ => ?_)
  generalize w4.drew = w5 at BK638 BK639 HB hHeld ⊢
  refine pu 0 3 (bl 8 1) ?_
  refine pu 3 6 (bl 8 9) ?_
  refine tk 1 4 (bl 8 11) ?_ hHeld
  refine tk 4 7 (bl 8 27) ?_ hHeld
  refine oe 2 5 (bl 8 31) (fun K hK => ?_)
  refine Kd.R_lit_step k95 _ 95 ?hg (N := 5) ?hd (xs := ([] : List (S95))) (inner := []) (ok := fun _ => True) (okp := fun _ => True) ?hr ?hp (fun _ hk => hk) trivial (Below.refl _ _) (Nat.le_refl _) (by simp) ?_; (case hd => rfl); (case hg => rfl); (case hr => first | (go_simp; done) | (go_simp; rfl)); (case hp => exact (Reps.none _ _))
  intro v641 w6 ho7 hb hg_ hnew_
  clear hg_ hnew_
  (first | rw [← Ny640.out] at ho7 | (simp only [Int.reduceToNat] at ho7; rw [← Ny640.out] at ho7))
  have _ := ra (Kd.R_lower ho7 (below_size bq))
  have _ := bb (bk BK638) hb
  have _ := bb (bk BK639) hb
  have _ := bs hb
  clear BK638 BK639 HB
  rename_i HO642 BK638 BK639 HB
  clear hb ho7
  refine hK.out _ _ ⟨(blk_cell BK638.out 0).trans rfl, (blk_cell BK638.out 1).trans rfl⟩ (fun hHeld => ?_)
  clear hK K
  refine nm 5 ?_
  refine oe 5 8 (bl 8 63) (fun K hK => ?_)
  refine Kd.R_append_rows_step k95 (w0 := w) w.heap.size (by rfl) (.tmp 5) (.tmp 7) 38 95 (.agg #[(.int .i64 0), (.int .i64 0), (.int .i64 0), (.int .i64 0), (.int .i64 0), (.int .i64 0)]) 48 rfl Try.underlying38 info95 rfl (by decide) (by omega) v641 y640 l0_1 _ _ _ (fun _ => True) (fun _ => False) rfl rfl ?aO ?aR (fun _ _ h => h) (fun _ h => h.elim) ?aF ?aB ?aS ?aL ?_
  (case aR => exact sc HR0_1)
  (case aB => exact bq)
  (case aF => exact (fun _ _ => trivial))
  (case aO => exact (rq HO642))
  (case aS => exact (below_size bq))
  (case aL => have := LMc2.out; omega)
  intro v644 w8 ho hb hg hat
  rw [← Ny643.out] at ho
  have _ := ra (blk_grown (g := gb638) (o := .cells #[.string a0_0, .slice A0_1 l0_1.length c0_1] 40 (0, 0)) (bk BK638) hg (Kd.R_ne HO642.out BK638.out (by decide)))
  have _ := ra (blk_grown (g := gb639) (o := .cells #[.string (⟨#[]⟩ : ByteArray), .slice none 0 0] 40 (0, 0)) (bk BK639) hg (Kd.R_ne HO642.out BK639.out (by decide)))
  have _ := ra (hb)
  have _ := ra (ho)
  clear BK638 BK639 HB HO642
  rename_i BK638 BK639 HB HO645
  clear ho hb hg hat
  obtain ⟨Ao9, co9, eo9⟩ := Kd.R_slice HO645.out
  (first | subst eo9 | (injection eo9 with f1_ f2_ f3_; have f4_ := f1_.symm; have f5_ := f3_.symm; clear f1_ f2_ f3_; subst f4_; subst f5_))
  refine hK.out _ _ ⟨(blk_cell BK638.out 0).trans rfl, (blk_cell BK638.out 1).trans rfl⟩ (fun hHeld => ?_)
  clear hK K
  refine nm 8 ?_
  refine pu 6 9 (bl 8 127) ?_
  refine one_ (i := 7) (N := none) #[true, true, true, true, true, true, true, true] rfl rfl (one_of HT_.out (by kernel_rfl)) (by decide) (fun K hK => ?_)
  have hs10 : w8.cell? ⟨gb639, 0, none⟩ = some (.string (⟨#[]⟩ : ByteArray)) := (blk_cell BK639.out 0).trans rfl
  have hfs10 := blk_frozen BK639.out 0
  have hns10_0 := NB638_639.out
  have hms10_0 := NB639_638.out
  have hs11 : w8.cell? ⟨gb639, 1, none⟩ = some (.slice none 0 0) := (blk_cell BK639.out 1).trans rfl
  have hfs11 := blk_frozen BK639.out 1
  have hns11_0 := NB638_639.out
  have hms11_0 := NB639_638.out
  refine skip_ (w1 := ?_) (by rfl) rfl ?_ ?_
  rotate_left
  ·go_simp
   rfl
  refine hK.out _ _ ⟨((cell_far (p := ⟨gb639, _, none⟩) NB638_639.out _).trans (((cell_far (p := ⟨gb639, _, none⟩) NB638_639.out _).trans (hHeld.1)))), ((cell_far (p := ⟨gb639, _, none⟩) NB638_639.out _).trans (((cell_far (p := ⟨gb639, _, none⟩) NB638_639.out _).trans (hHeld.2))))⟩ (fun hHeld => ?_)
  clear hK K
  refine done_ (done_of HT_.out (by kernel_rfl)) ?_
  try go_wp2
  refine bodyPost_ret (results_cell_row rfl _ _ gb639 40 #[.string a0_0, .slice Ao9 y643.length co9] (0, 0) _ rfl (bp BK639) Try.underlying40 rfl (by kernel_rfl)) rfl ?_
  exact ⟨_, re, by (with_reducible repeat (first | apply Kd.R_alloc | apply Kd.R_drewN | apply Kd.R_drew)); exact Kd.R_mono (rf (Kd.R_types HO645.out BK639.out (by decide))) (fun _ hk => trivial), bq⟩
 ·rw [if_neg c2] at H
  exact absurd H (by simp)
attribute [local go_sem high] eqA49
set_option maxHeartbeats 8000000 in
set_option maxRecDepth 100000 in
theorem impl_copyTubes.calls (k : Nat) (A0 : Option Addr) (c0 : Nat) (l0 : List (S40)) (r : List (S40)) (w : World) (hr0 : Kd.C k40 w A0 l0.length l0) (hc0 : l0.length ≤ c0) (h : impl_copyTubes.f k l0 = some r) :
  Calls Try.prog 58 #[.slice A0 l0.length c0] w fun e w' => ∃ v0_ : Value, e = .returned (v0_) ∧ Kd.S k40 40 w' w.heap.size (fun _ => True) v0_ r ∧ Below w.heap.size w w' := by
 have hu40 := Try.underlying40
 have HR0 := Aside0.mk hr0
 have HC0 := Aside0.mk hc0
 clear hr0 hc0
 have HB := ra (Below.refl w.heap.size w)
 have H : (impl_copyTubes.l0 k (([] : List (S40))) l0 (l0.length : Int) 0) = some r := h
 clear h
 obtain ⟨y646, hy_⟩ : ∃ y_ : List (S40), y_ = (([] : List (S40))) := ⟨_, rfl⟩
 replace H : (impl_copyTubes.l0 k y646 l0 (l0.length : Int) 0) = some r := yh
 have Ny646 := ra hy_
 clear hy_
 have H' := Aside0.mk H
 clear H
 go_enter Try.func58, Try.ntmps58
 go_wp2_with (first | ((with_reducible refine gate_dst (N := 6) rfl ?_); refine Kd.S_lit k40 _ 40 ?hg (N := 6) ?hd (xs := ([] : List (S40))) (inner := []) (ok := fun _ => True) (okp := fun _ => True) ?hr ?hp (fun _ hk => hk) trivial (Below.refl _ _) (Nat.le_refl _) (by simp) ?_; (case hd => rfl); (case hg => rfl); (case hr => first | (go_simp; done) | (go_simp; rfl)); (case hp => exact (Reps.none _ _)); intro v647 w2 ho3 hb hg_ hnew_; clear hg_ hnew_; (first | rw [← Ny646.out] at ho3 | (simp only [Int.reduceToNat] at ho3; rw [← Ny646.out] at ho3)); have _ := ra (Kd.S_lower ho3 (below_size bq)); have _ := bs hb; clear HB; rename_i HO648 HB; clear hb ho3))
 go_loopg [3, 9] k (fun kq v3 v9 w' => ∃ (x3_1 : List (S40)) (x9_1 : Int), v9 = .int .i64 x9_1 ∧ Aside0 (impl_copyTubes.l0 kq x3_1 l0 (l0.length : Int) x9_1 = some r) ∧ Aside0 (kq ≤ k) ∧ Aside0 (Kd.S k40 40 w' w.heap.size (fun _ => True) v3 x3_1) ∧ Aside0 (Below w.heap.size w w'))
 case atStart => exact ⟨(y646), (0), rs, H', ⟨Nat.le_refl _⟩, ⟨by (with_reducible repeat (first | apply Kd.S_alloc | apply Kd.S_drewN | apply Kd.S_drew)); exact HO648.out⟩, ⟨bq⟩⟩
 case round =>
  clear H'
  obtain ⟨x3_1, x9_1, rfl, HA, HK1, HO_3, HB⟩ := hrel
  cases gk with
  | zero => exact absurd HA.out (by simp [impl_copyTubes.l0])
  | succ k1 =>
   have H := HA.out
   clear HA
   simp only [impl_copyTubes.l0] at H
   by_cases c4 : x9_1 < (l0.length : Int)
   ·rw [if_pos c4] at H
    have c4b0 : decide (x9_1 < (l0.length : Int)) = true := decide_eq_true c4
    clear c4
    by_cases c5 : 0 ≤ x9_1
    ·rw [if_pos c5] at H
     have c5b0 : decide (0 ≤ x9_1) = true := decide_eq_true c5
     clear c5
     by_cases c6 : x9_1 < (l0.length : Int)
     ·rw [if_pos c6] at H
      have c6b0 : decide (x9_1 < (l0.length : Int)) = true := decide_eq_true c6
      clear c6
      obtain ⟨⟨t651, t652⟩, A7, H⟩ := bo H
      try dsimp only at H
      by_cases c8 : x3_1.length < 3518437208883
      ·rw [if_pos c8] at H
       have LMc8 := Aside0.mk c8
       clear c8
       obtain ⟨y655, hy_⟩ : ∃ y_ : List (S40), y_ = (x3_1 ++ [(⟨t651, t652⟩ : S40)]) := ⟨_, rfl⟩
       replace H : (impl_copyTubes.l0 k1 y655 l0 (l0.length : Int) (wrap64 (x9_1 + 1))) = some r := yh
       have Ny655 := ra hy_
       clear hy_
       have H' := Aside0.mk H
       clear H
       have p649 : 0 ≤ (x9_1 : Int) := od
       have q649 : x9_1 < (l0.length : Int) := od
       obtain ⟨ad649, A649_1, c649_1, e649, hx649_0, hx649_1, hl649_1, hi649_1⟩ := at_T40 HR0.out x9_1 p649 q649
       cases e649
       replace hx649_0 := hc HB hx649_0
       replace hx649_1 := hc HB hx649_1
       have HR649_1 := Aside0.mk hi649_1
       have HC649_1 := Aside0.mk hl649_1
       clear hi649_1 hl649_1
       replace p649 := eq_true p649
       replace q649 := eq_true q649
       go_wp2_with (first | ((with_reducible refine gate_dst (N := 5) rfl ?_); refine be 5 #[.string (⟨#[]⟩ : ByteArray), .slice none 0 0] 40 ?_; intro gb650 hg w9 hbox hb; have _ := ra (Kd.S_below (Kd.S_elderB (by (with_reducible repeat (first | apply Kd.S_alloc | apply Kd.S_drewN | apply Kd.S_drew)); exact HO_3.out) gb650 (Nat.le_of_eq hg.symm)) hb); have _ := bs hb; have _ := ra (hbox); have _ := bz (w0 := w) hg; have _ := bz (w0 := w) hg; clear HO_3 HB; rename_i HO_3 HB BK650 GW650 GE650; clear hb hbox hg; obtain ⟨hcz10_0, hcz10_1, hfz10_0, hfz10_1⟩ := zc2 BK650) | ((with_reducible refine gate_callee (f := 61) rfl ?_); refine gl (some 15) Try.func61 #[.agg #[.string ((rd_T40 l0 x9_1).f0), .slice A649_1 ((rd_T40 l0 x9_1).f1).length c649_1]] ?_; (with_reducible refine (impl_copyTube.calls ((rd_T40 l0 x9_1).f0) _ _ ((rd_T40 l0 x9_1).f1) t651 t652 _ ?side1 ?side2 A7.out).mono ?_); (case side1 => exact Kd.C_below HR649_1.out bq); (case side2 => exact HC649_1.out); rintro e w11 ⟨v653, rfl, ho0, hb⟩; refine ⟨_, rfl, ?_⟩; have _ := ra (Kd.S_elder' (by (with_reducible repeat (first | apply Kd.S_alloc | apply Kd.S_drewN | apply Kd.S_drew)); exact (Kd.S_mono (Kd.S_far (p := ⟨gb650, 1, none⟩) (Kd.S_far (p := ⟨gb650, 0, none⟩) (Kd.S_mono HO_3.out (fun k_ hk => (⟨hk, hk.2⟩ : _ ∧ k_ ≠ gb650))) (fun _ hk => hk.2) (.string ((rd_T40 l0 x9_1).f0))) (fun _ hk => hk.2) (.slice A649_1 ((rd_T40 l0 x9_1).f1).length c649_1)) (fun _ h_ => h_.1))) (Kd.R_base ho0) hb); have _ := ra (Kd.R_lower ho0 (below_size bq)); have _ := bb (o := .cells #[.string ((rd_T40 l0 x9_1).f0), .slice A649_1 ((rd_T40 l0 x9_1).f1).length c649_1] 40 (0, 0)) (bp BK650) hb; have _ := bs hb; clear HO_3 BK650 HB; rename_i HO_3 HO654 BK650 HB; (try clear hb); (try clear hb2); (try clear hk); (try clear hi); (try clear ho0); obtain ⟨Ao13, co13, eo13⟩ := Kd.R_slice HO654.out; subst eo13) | ((with_reducible refine gate_builtin (b := .append) (xs := #[.tmp 13, .tmp 16]) rfl ?_); at_builtin; refine Kd.S_append k40 (w0 := w) w.heap.size rfl (.tmp 13) (.tmp 16) 26 40 (.agg #[(.string ⟨#[]⟩), (.slice none 0 0)]) 40 rfl Try.underlying26 info40 rfl (by decide) (by omega) u3 x3_1 (⟨t651, t652⟩ : S40) [.string t651, .slice Ao13 t652.length co13] (fun k_ => k_ ≠ gb650) (fun k_ => some k_ = (.slice Ao13 t652.length co13 : Value).ownBlock) rfl rfl ?aP (fun k_ hk_ => ((Kd.R_mono (ok' := fun k_ => ((fun k_ => k_ ≠ gb650)) k_ ∧ some k_ ≠ (u3 : Value).ownBlock) (Kd.R_types (Kd.R_apart' (HO654.out) (Kd.S_typed HO_3.out) (by decide)) BK650.out (by decide)) (fun k_ hk => ⟨hk.2, hk.1.2⟩))).1 k_ hk_.symm) ?aF ?aO ?aB ?aS ?aL ?_; (case aP => exact k40_mkM _ _ _ (⟨t651, t652⟩ : S40) (Kd.R_mono (Kd.R_tight rfl (Kd.R_mono (ok' := fun k_ => ((fun k_ => k_ ≠ gb650)) k_ ∧ some k_ ≠ (u3 : Value).ownBlock) (Kd.R_types (Kd.R_apart' (HO654.out) (Kd.S_typed HO_3.out) (by decide)) BK650.out (by decide)) (fun k_ hk => ⟨hk.2, hk.1.2⟩))) (fun _ h_ => h_))); (case aB => exact bq); (case aF => exact (fun k_ hk => Kd.freshB (g := gb650) (o := .cells #[.string ((rd_T40 l0 x9_1).f0), .slice A649_1 ((rd_T40 l0 x9_1).f1).length c649_1] 40 (0, 0)) (bk BK650) k_ hk)); (case aO => exact (by (with_reducible repeat (first | apply Kd.S_alloc | apply Kd.S_drewN | apply Kd.S_drew)); exact Kd.S_mono HO_3.out (fun k_ hk => ⟨hk.1.2, fun e_ => hk.2 e_⟩))); (case aS => exact (below_size bq)); (case aL => have := LMc8.out; omega); intro v656 w12 ho hb hg hat; rw [← Ny655.out] at ho; have _ := ra (blk_grown (g := gb650) (o := .cells #[.string ((rd_T40 l0 x9_1).f0), .slice A649_1 ((rd_T40 l0 x9_1).f1).length c649_1] 40 (0, 0)) (bk BK650) hg (Kd.S_away HO_3.out (fun _ hk => hk.1.2))); have _ := ra (hb); have _ := ra (ho); clear BK650 HB HO_3 HO654; rename_i BK650 HB HO657; clear ho hb hg hat))
       go_roundg k1
       case measure => have := HK1.out; omega
       case rel => exact ⟨(y655), (wrap64 (x9_1 + 1)), rs, H', ⟨by have := HK1.out; omega⟩, ⟨by (with_reducible repeat (first | apply Kd.S_alloc | apply Kd.S_drewN | apply Kd.S_drew)); exact Kd.S_mono HO657.out (fun _ hk => trivial)⟩, ⟨bq⟩⟩
      ·rw [if_neg c8] at H
       exact absurd H (by simp)
     ·rw [if_neg c6] at H
      exact absurd H (by simp)
    ·rw [if_neg c5] at H
     exact absurd H (by simp)
   ·rw [if_neg c4] at H
    have c4b0 : decide (x9_1 < (l0.length : Int)) = false := decide_eq_false c4
    clear c4
    obtain rfl := Option.some.inj H
    go_wp2
    go_ret
    exact ⟨_, re, by (with_reducible repeat (first | apply Kd.S_alloc | apply Kd.S_drewN | apply Kd.S_drew)); exact HO_3.out, bq⟩
def impl_ProbeHappen.T5 : Bool × List (List Nat × List Nat) := (true, [([], []), ([], []), ([1], [1]), ([0, 2], [0, 2]), ([3], [3]), ([4], [4]), ([4], [4]), ([5, 6, 4], [4, 5, 6]), ([7, 4], [4, 7]), ([8, 4], [4, 8]), ([4], [4]), ([10, 4], [4, 10]), ([11, 4], [4, 11]), ([9, 12, 4], [4, 9, 12]), ([4, 13], [4, 13]), ([14, 4, 0, 1, 2, 3, 4, 5, 6, 7, 8, 9, 10, 11, 12, 13, 14], [14])])
def impl_ProbeHappen.B5 : List Nat := [0, 0, 2, 7, 15, 31, 31, 127, 255, 511, 31, 1055, 3103, 8191, 16383, 32767]
theorem impl_ProbeHappen.tab5 : rtab .any (opsOf Try.f29 5) = impl_ProbeHappen.T5 := by kernel_rfl
theorem impl_ProbeHappen.bits5 : waitsOk impl_ProbeHappen.T5.2 impl_ProbeHappen.B5 = true := by kernel_rfl
def impl_ProbeHappen.T11 : Bool × List (List Nat × List Nat) := (true, [([], []), ([], []), ([0, 1], [0, 1]), ([], []), ([], []), ([4], [4]), ([3, 5], [3, 5]), ([2, 6], [2, 6]), ([7, 7, 0, 1, 2, 3, 4, 5, 6, 7], [7]), ([8, 0, 1, 2, 3, 4, 5, 6, 7, 8], [])])
def impl_ProbeHappen.B11 : List Nat := [0, 0, 3, 0, 0, 16, 56, 127, 255, 511]
theorem impl_ProbeHappen.tab11 : rtab .any (opsOf Try.f29 11) = impl_ProbeHappen.T11 := by kernel_rfl
theorem impl_ProbeHappen.bits11 : waitsOk impl_ProbeHappen.T11.2 impl_ProbeHappen.B11 = true := by kernel_rfl
def impl_ProbeHappen.T17 : Bool × List (List Nat × List Nat) := (true, [([], []), ([0], [0]), ([1], [1]), ([2], [2]), ([], []), ([], []), ([4, 5], [4, 5]), ([3, 6, 2], [3, 6]), ([7, 7, 0, 1, 2, 3, 4, 5, 6, 7], [7])])
def impl_ProbeHappen.B17 : List Nat := [0, 1, 3, 7, 0, 0, 48, 127, 255]
theorem impl_ProbeHappen.tab17 : rtab .any (opsOf Try.f29 17) = impl_ProbeHappen.T17 := by kernel_rfl
theorem impl_ProbeHappen.bits17 : waitsOk impl_ProbeHappen.T17.2 impl_ProbeHappen.B17 = true := by kernel_rfl
set_option maxHeartbeats 8000000 in
set_option maxRecDepth 100000 in
theorem impl_ProbeHappen.calls (k : Nat) (A0 : Option Addr) (c0 : Nat) (l0 : List (S40)) (a1_0 : Bool) (a1_1 : ByteArray) (A1_2 : Option Addr) (c1_2 : Nat) (l1_2 : List (S95)) (r1 : List (S40)) (r2 : Int) (w : World) (hr0 : Kd.C k40 w A0 l0.length l0) (hc0 : l0.length ≤ c0) (hr1_2 : Kd.C k95 w A1_2 l1_2.length l1_2) (hc1_2 : l1_2.length ≤ c1_2) (h : impl_ProbeHappen.f k l0 a1_0 a1_1 l1_2 = some (r1, r2)) :
  Calls Try.prog 29 #[.slice A0 l0.length c0, .agg #[.bool a1_0, .string a1_1, .slice A1_2 l1_2.length c1_2]] w fun e w' => ∃ v0_ : Value, e = .returned (.tuple #[v0_, .int .i64 r2]) ∧ Kd.S k40 40 w' w.heap.size (fun _ => True) v0_ r1 ∧ Below w.heap.size w w' := by
 have hu54 := Try.underlying54
 have hu40 := Try.underlying40
 have HR0 := Aside0.mk hr0
 have HC0 := Aside0.mk hc0
 clear hr0 hc0
 have HR1_2 := Aside0.mk hr1_2
 have HC1_2 := Aside0.mk hc1_2
 clear hr1_2 hc1_2
 have HB := ra (Below.refl w.heap.size w)
 have H : ((impl_ProbeSkyOk.f k l0).bind fun t660 => (if t660 = true then ((impl_copyTubes.f k l0).bind fun t661 => ((impl_search.f (l0.length : Int) l0 a1_1).bind fun t664 => (if t664 < (l0.length : Int) then (if 0 ≤ t664 then (impl_ProbeHappen.j0 k t661 t664 (((rd_T40 l0 t664).f0).toList == a1_1.toList) l0 a1_0 a1_1 l1_2) else (none)) else (impl_ProbeHappen.j0 k t661 t664 false l0 a1_0 a1_1 l1_2)))) else (some (([] : List (S40)), 1)))) = some (r1, r2) := h
 clear h
 obtain ⟨t660, A3, H⟩ := bo H
 by_cases c4 : t660 = true
 ·subst c4
  replace H := it H rfl
  obtain ⟨t661, A5, H⟩ := bo H
  obtain ⟨t664, A6, H⟩ := bo H
  have HC7 := Aside0.mk H
  clear H
  go_enter Try.func29, Try.ntmps29
  go_upto_region 5 with (first | ((with_reducible refine gate_dst (N := 2) rfl ?_); refine be 2 #[.slice A0 l0.length c0] 26 ?_; intro gb658 hg w8 hbox hb; have _ := bs hb; have _ := ra (hbox); have _ := bz (w0 := w) hg; have _ := bz (w0 := w) hg; clear HB; rename_i HB BK658 GW658 GE658; clear hb hbox hg) | ((with_reducible refine gate_dst (N := 3) rfl ?_); refine be 3 #[.bool a1_0, .string a1_1, .slice A1_2 l1_2.length c1_2] 54 ?_; intro gb659 hg w9 hbox hb; have _ := bb (bk BK658) hb; have _ := bs hb; have _ := ra (hbox); have _ := bz (w0 := w) hg; have _ := bz (w0 := w) hg; have _ := bn hg (bk BK658); have _ := bm hg (bk BK658); clear BK658 HB; rename_i BK658 HB BK659 GW659 GE659 NB658_659 NB659_658; clear hb hbox hg; have hnb10 := NB658_659.out; have hnc10 := NB659_658.out; obtain ⟨hcz11_0, hfz11_0⟩ := zc1 BK658) | ((with_reducible refine gate_callee (f := 26) rfl ?_); refine gl (some 11) Try.func26 #[.slice A0 l0.length c0] ?_; (with_reducible refine (impl_ProbeSkyOk.calls k _ _ l0 true _ ?side1 ?side2 A3.out).mono ?_); (case side1 => exact sc HR0); (case side2 => exact HC0.out); rintro e w12 ⟨rfl, hb⟩; refine ⟨_, rfl, ?_⟩; have _ := bb (bk BK658) hb; have _ := bb (bk BK659) hb; have _ := bs hb; clear BK658 BK659 HB; rename_i BK658 BK659 HB; (try clear hb); (try clear hb2); (try clear hk); (try clear hi); obtain ⟨hcz13_0, hfz13_0⟩ := zc1 BK658) | ((with_reducible refine gate_callee (f := 58) rfl ?_); refine gl (some 14) Try.func58 #[.slice A0 l0.length c0] ?_; (with_reducible refine (impl_copyTubes.calls k _ _ l0 t661 _ ?side1 ?side2 A5.out).mono ?_); (case side1 => exact sc HR0); (case side2 => exact HC0.out); rintro e w14 ⟨v662, rfl, ho0, hb⟩; refine ⟨_, rfl, ?_⟩; have _ := ra (Kd.S_lower ho0 (below_size bq)); have _ := bb (bk BK658) hb; have _ := bb (bk BK659) hb; have _ := bs hb; clear BK658 BK659 HB; rename_i HO663 BK658 BK659 HB; (try clear hb); (try clear hb2); (try clear hk); (try clear hi); (try clear ho0); obtain ⟨hcz15_0, hfz15_0⟩ := zc1 BK658; have hcz16_0 : w14.cell? ⟨gb659, 0, none⟩ = some (.bool a1_0) := (blk_cell BK659.out 0).trans rfl; have hcz16_1 : w14.cell? ⟨gb659, 1, none⟩ = some (.string a1_1) := (blk_cell BK659.out 1).trans rfl; have hcz16_2 : w14.cell? ⟨gb659, 2, none⟩ = some (.slice A1_2 l1_2.length c1_2) := (blk_cell BK659.out 2).trans rfl; have hfz16_0 := blk_frozen BK659.out 0; have hfz16_1 := blk_frozen BK659.out 1; have hfz16_2 := blk_frozen BK659.out 2) | ((with_reducible refine gate_callee (f := 59) rfl ?_); refine gl (some 18) Try.func59 #[.int .i64 (l0.length : Int), .func (.func 60) #[] #[.pointer (some ⟨gb658, 0, none⟩), .pointer (some ⟨gb659, 0, none⟩)]] ?_; (with_reducible refine (impl_search.calls (l0.length : Int) _ _ l0 a1_1 t664 _ (bk BK658) (bk BK659) ?side1 ?side2 A6.out).mono ?_); (case side1 => exact sc HR0); (case side2 => exact HC0.out); rintro e w17 ⟨rfl, hb⟩; refine ⟨_, rfl, ?_⟩; have _ := ra (Kd.S_below (by (with_reducible repeat (first | apply Kd.S_alloc | apply Kd.S_drewN | apply Kd.S_drew)); exact HO663.out) hb); have _ := bb (bk BK658) hb; have _ := bb (bk BK659) hb; have _ := bs hb; clear HO663 BK658 BK659 HB; rename_i HO663 BK658 BK659 HB; (try clear hb); (try clear hb2); (try clear hk); (try clear hi)))
  (try simp only [Act.put, List.setIfInBounds_toArray, List.set_cons_zero, List.set_cons_succ])
  go_cut [8] (fun v8 wc => ∃ (kq : Nat) (x8_6 : Bool), v8 = .bool x8_6 ∧ Aside0 (impl_ProbeHappen.j0 kq t661 t664 x8_6 l0 a1_0 a1_1 l1_2 = some (r1, r2)) ∧ Aside0 (kq ≤ k) ∧ Aside0 (Kd.S k40 40 wc w.heap.size (fun _ => True) v662 t661) ∧ Aside0 (wc.heap[gb658]? = some (.cells #[(.slice A0 l0.length c0)] 26 (0, 0))) ∧ Aside0 (wc.heap[gb659]? = some (.cells #[.bool a1_0, .string a1_1, (.slice A1_2 l1_2.length c1_2)] 54 (0, 0))) ∧ Aside0 (Below w.heap.size w wc))
  case first =>
   have H := HC7.out
   clear HC7
   by_cases c18 : t664 < (l0.length : Int)
   ·rw [if_pos c18] at H
    have c18b0 : decide (t664 < (l0.length : Int)) = true := decide_eq_true c18
    clear c18
    (first | rw [c18b0] | (simp only [i64_w, i32_w]; rw [c18b0]) | skip)
    by_cases c19 : 0 ≤ t664
    ·rw [if_pos c19] at H
     have c19b0 : decide (0 ≤ t664) = true := decide_eq_true c19
     clear c19
     have H' := Aside0.mk H
     clear H
     try go_wp2
     have _ := ra (Kd.S_drew HO663.out)
     have _ := ra (blk_drew BK658.out)
     have _ := ra (blk_drew BK659.out)
     have _ := ra (below_drew1 HB.out)
     clear HO663 BK658 BK659 HB
     rename_i HO663 BK658 BK659 HB
     have p665 : 0 ≤ (t664 : Int) := od
     have q665 : t664 < (l0.length : Int) := od
     obtain ⟨ad665, A665_1, c665_1, e665, hx665_0, hx665_1, hl665_1, hi665_1⟩ := at_T40 HR0.out t664 p665 q665
     have hw665_1 := hx665_1
     have hw665_0 := hx665_0
     cases e665
     replace hx665_0 := hc HB hx665_0
     replace hx665_1 := hc HB hx665_1
     have HR665_1 := Aside0.mk hi665_1
     have HC665_1 := Aside0.mk hl665_1
     clear hi665_1 hl665_1
     replace p665 := eq_true p665
     replace q665 := eq_true q665
     refine start_ (n := 16) (S := fun w' => w'.cell? ⟨gb658, 0, none⟩ = some (.slice (some ad665) l0.length c0) ∧ w'.cell? ⟨gb659, 0, none⟩ = some (.bool a1_0) ∧ w'.cell? ⟨gb659, 1, none⟩ = some (.string a1_1) ∧ w'.cell? ⟨gb659, 2, none⟩ = some (.slice A1_2 l1_2.length c1_2) ∧ w'.cell? (ad665.add ((t664).toNat * 2)) = some (.string ((rd_T40 l0 t664).f0)) ∧ w'.cell? ⟨(ad665.add ((t664).toNat * 2)).block, (ad665.add ((t664).toNat * 2)).off + 1, none⟩ = some (.slice A665_1 ((rd_T40 l0 t664).f1).length c665_1)) (ds := []) (bl 16 0) (by kernel_rfl) rfl rfl ⟨(blk_cell BK658.out 0).trans rfl, (blk_cell BK659.out 0).trans rfl, (blk_cell BK659.out 1).trans rfl, (blk_cell BK659.out 2).trans rfl, (hc HB hw665_0), (hc HB hw665_1)⟩ (fun hHeld => ?_); refine with_tabW impl_ProbeHappen.tab5 impl_ProbeHappen.bits5 (fun HT_ HW_ => ?_)
     generalize w17.drew = w20 at HO663 BK658 BK659 HB HR665_1 hx665_0 hx665_1 hHeld ⊢
     refine pu 0 19 (bl 16 1) ?_
     refine tk 1 20 (bl 16 3) ?_ hHeld
     refine pu 2 21 (bl 16 7) ?_
     refine pu 3 22 (bl 16 15) ?_
     refine pu 4 23 (bl 16 31) ?_
     refine pu 6 25 (bl 16 95) ?_
     refine pu 10 29 (bl 16 1119) ?_
     refine pu 11 30 (bl 16 3167) ?_
     refine tk 5 24 (bl 16 3199) ?_ hHeld
     refine pu 7 26 (bl 16 3327) ?_
     refine pu 8 27 (bl 16 3583) ?_
     refine tk 9 28 (bl 16 4095) ?_ hHeld
     refine tk 12 31 (bl 16 8191) ?_ hHeld
     refine pu 13 32 (bl 16 16383) ?_
     refine pu 14 33 (bl 16 32767) ?_
     refine pu 15 8 (bl 16 65535) ?_
     refine done_ (done_of HT_.out (by kernel_rfl)) ?_
     try go_wp2
     go_meet
     case rel => exact ⟨_, ((((rd_T40 l0 t664).f0).toList == a1_1.toList)), rs, H', ⟨by first | omega | exact Nat.le_refl _⟩, ⟨by (with_reducible repeat (first | apply Kd.S_alloc | apply Kd.S_drewN | apply Kd.S_drew)); exact HO663.out⟩, ⟨bk BK658⟩, ⟨bk BK659⟩, ⟨bq⟩⟩
    ·rw [if_neg c19] at H
     exact absurd H (by simp)
   ·rw [if_neg c18] at H
    have c18b0 : decide (t664 < (l0.length : Int)) = false := decide_eq_false c18
    clear c18
    (first | rw [c18b0] | (simp only [i64_w, i32_w]; rw [c18b0]) | skip)
    have H' := Aside0.mk H
    clear H
    try go_wp2
    have _ := ra (Kd.S_drew HO663.out)
    have _ := ra (blk_drew BK658.out)
    have _ := ra (blk_drew BK659.out)
    have _ := ra (below_drew1 HB.out)
    clear HO663 BK658 BK659 HB
    rename_i HO663 BK658 BK659 HB
    refine start_ (n := 16) (S := fun w' => w'.cell? ⟨gb658, 0, none⟩ = some (.slice A0 l0.length c0)) (ds := []) (bl 16 0) (by kernel_rfl) rfl rfl ((blk_cell BK658.out 0).trans rfl) (fun hHeld => ?_); refine with_tabW impl_ProbeHappen.tab5 impl_ProbeHappen.bits5 (fun HT_ HW_ => ?_)
    generalize w17.drew = w21 at HO663 BK658 BK659 HB hHeld ⊢
    refine pu 0 19 (bl 16 1) ?_
    refine take_ (i := 1) (N := some 20) (v := ?_) (a' := ?_) #[true, true, false, false, false, false, false, false, false, false, false, false, false, false, false, false] rfl rfl (take_ofW HT_.out HW_.out (by kernel_rfl)) (fun _ _ _ h => h) (Or.inl ⟨by rfl, ?_⟩) hHeld ?_ ?_
    rotate_left
    ·intro w' s0
     go_simp
     with_reducible rfl
    rotate_left
    ·simp only [Act.put, List.setIfInBounds_toArray, List.set_cons_zero, List.set_cons_succ, i64_w, i32_w]
     rfl
    refine pu 2 21 (bl 16 7) ?_
    refine pu 3 22 (bl 16 15) ?_
    refine pu 4 23 (bl 16 31) ?_
    refine pv 5 24 (bl 16 63) ?_
    refine pv 6 25 (bl 16 127) ?_
    refine pv 7 26 (bl 16 255) ?_
    refine pv 8 27 (bl 16 511) ?_
    refine pv 9 28 (bl 16 1023) ?_
    refine pv 10 29 (bl 16 2047) ?_
    refine pv 11 30 (bl 16 4095) ?_
    refine pv 12 31 (bl 16 8191) ?_
    refine pv 13 32 (bl 16 16383) ?_
    refine pu 14 33 (bl 16 32767) ?_
    refine pu 15 8 (bl 16 65535) ?_
    refine done_ (done_of HT_.out (by kernel_rfl)) ?_
    try go_wp2
    go_meet
    case rel => exact ⟨_, (false), rs, H', ⟨by first | omega | exact Nat.le_refl _⟩, ⟨by (with_reducible repeat (first | apply Kd.S_alloc | apply Kd.S_drewN | apply Kd.S_drew)); exact HO663.out⟩, ⟨bk BK658⟩, ⟨bk BK659⟩, ⟨bq⟩⟩
  case rest =>
   clear HC7
   try clear c1
   try clear c4
   try clear c18
   try clear c18b0
   try clear c19
   try clear c19b0
   try clear hcz11_0
   try clear hcz13_0
   try clear hcz15_0
   try clear hcz16_0
   try clear hcz16_1
   try clear hcz16_2
   try clear hfz11_0
   try clear hfz13_0
   try clear hfz15_0
   try clear hfz16_0
   try clear hfz16_1
   try clear hfz16_2
   try clear hx665_0
   try clear hx665_1
   try clear p665
   try clear q665
   obtain ⟨kq, x8_6, rfl, HA, HJ6, HO_6, BK658, BK659, HB⟩ := hcut
   cases kq with
   | zero => exact absurd HA.out (by simp [impl_ProbeHappen.j0])
   | succ kj6 =>
    have H := HA.out
    clear HA
    simp only [impl_ProbeHappen.j0] at H
    have HC22 := Aside0.mk H
    clear H
    go_upto_region 6 with (fail)
    go_cut [34] (fun v34 wc => ∃ (kq : Nat) (x34_21 : Bool), v34 = .bool x34_21 ∧ Aside0 (impl_ProbeHappen.j1 kq t661 t664 x8_6 x34_21 l0 a1_0 a1_1 l1_2 = some (r1, r2)) ∧ Aside0 (kq ≤ kj6) ∧ Aside0 (Kd.S k40 40 wc w.heap.size (fun _ => True) v662 t661) ∧ Aside0 (wc.heap[gb658]? = some (.cells #[(.slice A0 l0.length c0)] 26 (0, 0))) ∧ Aside0 (wc.heap[gb659]? = some (.cells #[.bool a1_0, .string a1_1, (.slice A1_2 l1_2.length c1_2)] 54 (0, 0))) ∧ Aside0 (Below w.heap.size w wc))
    case first =>
     have H := HC22.out
     clear HC22
     by_cases c23 : a1_0 = true
     ·subst c23
      replace H := it H rfl
      have H' := Aside0.mk H
      clear H
      have hnb24 := NB659_658.out
      have hnc24 := NB658_659.out
      have hcz25_0 : wc.cell? ⟨gb659, 0, none⟩ = some (.bool true) := (blk_cell BK659.out 0).trans rfl
      have hcz25_1 : wc.cell? ⟨gb659, 1, none⟩ = some (.string a1_1) := (blk_cell BK659.out 1).trans rfl
      have hcz25_2 : wc.cell? ⟨gb659, 2, none⟩ = some (.slice A1_2 l1_2.length c1_2) := (blk_cell BK659.out 2).trans rfl
      have hfz25_0 := blk_frozen BK659.out 0
      have hfz25_1 := blk_frozen BK659.out 1
      have hfz25_2 := blk_frozen BK659.out 2
      go_wp2
      go_meet
      case rel => exact ⟨_, (false), rs, H', ⟨by have := HJ6.out; first | omega | exact Nat.le_refl _⟩, ⟨by (with_reducible repeat (first | apply Kd.S_alloc | apply Kd.S_drewN | apply Kd.S_drew)); exact HO_6.out⟩, ⟨bk BK658⟩, ⟨bk BK659⟩, ⟨bq⟩⟩
     ·replace c23 := Bool.eq_false_iff.mpr c23
      subst c23
      have H1 : ((impl_ProbeTubeOk.f kj6 a1_1 l1_2).bind fun t666 => (impl_ProbeHappen.j1 kj6 t661 t664 x8_6 (!t666) l0 false a1_1 l1_2)) = some (r1, r2) := by rw [if_neg (show ¬ (false = true) by decide)] at H; exact H
      clear H
      have H := H1
      clear H1
      obtain ⟨t666, A26, H⟩ := bo H
      have H' := Aside0.mk H
      clear H
      have hnb27 := NB659_658.out
      have hnc27 := NB658_659.out
      have hcz28_0 : wc.cell? ⟨gb659, 0, none⟩ = some (.bool false) := (blk_cell BK659.out 0).trans rfl
      have hcz28_1 : wc.cell? ⟨gb659, 1, none⟩ = some (.string a1_1) := (blk_cell BK659.out 1).trans rfl
      have hcz28_2 : wc.cell? ⟨gb659, 2, none⟩ = some (.slice A1_2 l1_2.length c1_2) := (blk_cell BK659.out 2).trans rfl
      have hfz28_0 := blk_frozen BK659.out 0
      have hfz28_1 := blk_frozen BK659.out 1
      have hfz28_2 := blk_frozen BK659.out 2
      go_wp2_with (first | (go_at_call 54; (with_reducible refine (impl_ProbeTubeOk.calls kj6 a1_1 _ _ l1_2 t666 _ ?side1 ?side2 A26.out).mono ?_); (case side1 => exact sc HR1_2); (case side2 => exact HC1_2.out); rintro e w29 ⟨rfl, hb⟩; have _ := ra (Kd.S_below (by (with_reducible repeat (first | apply Kd.S_alloc | apply Kd.S_drewN | apply Kd.S_drew)); exact HO_6.out) hb); have _ := bb (bk BK658) hb; have _ := bb (bk BK659) hb; have _ := bs hb; clear HO_6 BK658 BK659 HB; rename_i HO_6 BK658 BK659 HB; (try clear hb); (try clear hb2); (try clear hk); (try clear hi)))
      go_meet
      case rel => exact ⟨_, (!t666), rs, H', ⟨by have := HJ6.out; first | omega | exact Nat.le_refl _⟩, ⟨by (with_reducible repeat (first | apply Kd.S_alloc | apply Kd.S_drewN | apply Kd.S_drew)); exact HO_6.out⟩, ⟨bk BK658⟩, ⟨bk BK659⟩, ⟨bq⟩⟩
    case rest =>
     clear HC22
     try clear c1
     try clear c4
     try clear c18
     try clear c18b0
     try clear c19
     try clear c19b0
     try clear c23
     try clear hcz11_0
     try clear hcz13_0
     try clear hcz15_0
     try clear hcz16_0
     try clear hcz16_1
     try clear hcz16_2
     try clear hcz25_0
     try clear hcz25_1
     try clear hcz25_2
     try clear hcz28_0
     try clear hcz28_1
     try clear hcz28_2
     try clear hfz11_0
     try clear hfz13_0
     try clear hfz15_0
     try clear hfz16_0
     try clear hfz16_1
     try clear hfz16_2
     try clear hfz25_0
     try clear hfz25_1
     try clear hfz25_2
     try clear hfz28_0
     try clear hfz28_1
     try clear hfz28_2
     try clear hx665_0
     try clear hx665_1
     try clear p665
     try clear q665
     obtain ⟨kq, x34_21, rfl, HA, HJ21, HO_6, BK658, BK659, HB⟩ := hcut
     cases kq with
     | zero => exact absurd HA.out (by simp [impl_ProbeHappen.j1])
     | succ kj21 =>
      have H := HA.out
      clear HA
      simp only [impl_ProbeHappen.j1] at H
      by_cases c30 : x34_21 = true
      ·subst c30
       replace H := it H rfl
       simp only [Option.some.injEq, Prod.mk.injEq] at H
       obtain ⟨rfl, rfl⟩ := H
       go_wp2
       go_ret2
       exact ⟨_, re, by (with_reducible repeat (first | apply Kd.S_alloc | apply Kd.S_drewN | apply Kd.S_drew)); exact HO_6.out, bq⟩
      ·replace c30 := Bool.eq_false_iff.mpr c30
       subst c30
       have H1 : (if a1_0 = true then (impl_ProbeHappen.j2 kj21 t661 t664 x8_6 (!x8_6) l0 a1_0 a1_1 l1_2) else (impl_ProbeHappen.j2 kj21 t661 t664 x8_6 false l0 a1_0 a1_1 l1_2)) = some (r1, r2) := by rw [if_neg (show ¬ (false = true) by decide)] at H; exact H
       clear H
       have H := H1
       clear H1
       have HC31 := Aside0.mk H
       clear H
       go_upto_region 8 with (fail)
       go_cut [45] (fun v45 wc => ∃ (kq : Nat) (x45_30 : Bool), v45 = .bool x45_30 ∧ Aside0 (impl_ProbeHappen.j2 kq t661 t664 x8_6 x45_30 l0 a1_0 a1_1 l1_2 = some (r1, r2)) ∧ Aside0 (kq ≤ kj21) ∧ Aside0 (Kd.S k40 40 wc w.heap.size (fun _ => True) v662 t661) ∧ Aside0 (wc.heap[gb658]? = some (.cells #[(.slice A0 l0.length c0)] 26 (0, 0))) ∧ Aside0 (wc.heap[gb659]? = some (.cells #[.bool a1_0, .string a1_1, (.slice A1_2 l1_2.length c1_2)] 54 (0, 0))) ∧ Aside0 (Below w.heap.size w wc))
       case first =>
        have H := HC31.out
        clear HC31
        by_cases c32 : a1_0 = true
        ·subst c32
         replace H := it H rfl
         have H' := Aside0.mk H
         clear H
         have hnb33 := NB659_658.out
         have hnc33 := NB658_659.out
         have hcz34_0 : wc.cell? ⟨gb659, 0, none⟩ = some (.bool true) := (blk_cell BK659.out 0).trans rfl
         have hcz34_1 : wc.cell? ⟨gb659, 1, none⟩ = some (.string a1_1) := (blk_cell BK659.out 1).trans rfl
         have hcz34_2 : wc.cell? ⟨gb659, 2, none⟩ = some (.slice A1_2 l1_2.length c1_2) := (blk_cell BK659.out 2).trans rfl
         have hfz34_0 := blk_frozen BK659.out 0
         have hfz34_1 := blk_frozen BK659.out 1
         have hfz34_2 := blk_frozen BK659.out 2
         go_wp2
         go_meet
         case rel => exact ⟨_, (!x8_6), rs, H', ⟨by have := HJ6.out; have := HJ21.out; first | omega | exact Nat.le_refl _⟩, ⟨by (with_reducible repeat (first | apply Kd.S_alloc | apply Kd.S_drewN | apply Kd.S_drew)); exact HO_6.out⟩, ⟨bk BK658⟩, ⟨bk BK659⟩, ⟨bq⟩⟩
        ·replace c32 := Bool.eq_false_iff.mpr c32
         subst c32
         have H1 : (impl_ProbeHappen.j2 kj21 t661 t664 x8_6 false l0 false a1_1 l1_2) = some (r1, r2) := by rw [if_neg (show ¬ (false = true) by decide)] at H; exact H
         clear H
         have H := H1
         clear H1
         have H' := Aside0.mk H
         clear H
         have hnb35 := NB659_658.out
         have hnc35 := NB658_659.out
         have hcz36_0 : wc.cell? ⟨gb659, 0, none⟩ = some (.bool false) := (blk_cell BK659.out 0).trans rfl
         have hcz36_1 : wc.cell? ⟨gb659, 1, none⟩ = some (.string a1_1) := (blk_cell BK659.out 1).trans rfl
         have hcz36_2 : wc.cell? ⟨gb659, 2, none⟩ = some (.slice A1_2 l1_2.length c1_2) := (blk_cell BK659.out 2).trans rfl
         have hfz36_0 := blk_frozen BK659.out 0
         have hfz36_1 := blk_frozen BK659.out 1
         have hfz36_2 := blk_frozen BK659.out 2
         go_wp2
         go_meet
         case rel => exact ⟨_, (false), rs, H', ⟨by have := HJ6.out; have := HJ21.out; first | omega | exact Nat.le_refl _⟩, ⟨by (with_reducible repeat (first | apply Kd.S_alloc | apply Kd.S_drewN | apply Kd.S_drew)); exact HO_6.out⟩, ⟨bk BK658⟩, ⟨bk BK659⟩, ⟨bq⟩⟩
       case rest =>
        clear HC31
        try clear c1
        try clear c4
        try clear c18
        try clear c18b0
        try clear c19
        try clear c19b0
        try clear c23
        try clear c30
        try clear c32
        try clear hcz11_0
        try clear hcz13_0
        try clear hcz15_0
        try clear hcz16_0
        try clear hcz16_1
        try clear hcz16_2
        try clear hcz25_0
        try clear hcz25_1
        try clear hcz25_2
        try clear hcz28_0
        try clear hcz28_1
        try clear hcz28_2
        try clear hcz34_0
        try clear hcz34_1
        try clear hcz34_2
        try clear hcz36_0
        try clear hcz36_1
        try clear hcz36_2
        try clear hfz11_0
        try clear hfz13_0
        try clear hfz15_0
        try clear hfz16_0
        try clear hfz16_1
        try clear hfz16_2
        try clear hfz25_0
        try clear hfz25_1
        try clear hfz25_2
        try clear hfz28_0
        try clear hfz28_1
        try clear hfz28_2
        try clear hfz34_0
        try clear hfz34_1
        try clear hfz34_2
        try clear hfz36_0
        try clear hfz36_1
        try clear hfz36_2
        try clear hx665_0
        try clear hx665_1
        try clear p665
        try clear q665
        obtain ⟨kq, x45_30, rfl, HA, HJ30, HO_6, BK658, BK659, HB⟩ := hcut
        cases kq with
        | zero => exact absurd HA.out (by simp [impl_ProbeHappen.j2])
        | succ kj30 =>
         have H := HA.out
         clear HA
         simp only [impl_ProbeHappen.j2] at H
         by_cases c37 : x45_30 = true
         ·subst c37
          replace H := it H rfl
          simp only [Option.some.injEq, Prod.mk.injEq] at H
          obtain ⟨rfl, rfl⟩ := H
          go_wp2
          go_ret2
          exact ⟨_, re, by (with_reducible repeat (first | apply Kd.S_alloc | apply Kd.S_drewN | apply Kd.S_drew)); exact HO_6.out, bq⟩
         ·replace c37 := Bool.eq_false_iff.mpr c37
          subst c37
          have H1 : (if a1_0 = true then (if 0 ≤ t664 then (if t664 ≤ (t661.length : Int) then (if 0 ≤ (wrap64 (t664 + 1)) then (if (wrap64 (t664 + 1)) ≤ (t661.length : Int) then (some ((t661.eraseIdx (t664 : Int).toNat), 0)) else (none)) else (none)) else (none)) else (none)) else (if x8_6 = true then ((impl_copyTube.f a1_1 l1_2).bind fun bt678 => (if 0 ≤ t664 then (if t664 < (t661.length : Int) then (some ((t661.set (t664 : Int).toNat (⟨bt678.1, bt678.2⟩ : S40)), 0)) else (none)) else (none))) else (if (l0.length : Int) = 24 then (some (t661, 4)) else ((impl_copyTube.f a1_1 l1_2).bind fun bt683 => (if 0 ≤ t664 then (if t664 ≤ (t661.length : Int) then (if t661.length ≤ 1000 then (some (t661.take (t664 : Int).toNat ++ (⟨bt683.1, bt683.2⟩ : S40) :: t661.drop (t664 : Int).toNat, 0)) else (none)) else (none)) else (none)))))) = some (r1, r2) := by rw [if_neg (show ¬ (false = true) by decide)] at H; exact H
          clear H
          have H := H1
          clear H1
          by_cases c38 : a1_0 = true
          ·subst c38
           replace H := it H rfl
           by_cases c39 : 0 ≤ t664
           ·rw [if_pos c39] at H
            have c39b0 := eq_true c39
            have c39b1 : decide (0 ≤ t664) = true := decide_eq_true c39
            clear c39
            by_cases c40 : t664 ≤ (t661.length : Int)
            ·rw [if_pos c40] at H
             have c40b0 := eq_true c40
             have c40b1 : decide (t664 ≤ (t661.length : Int)) = true := decide_eq_true c40
             clear c40
             obtain ⟨y667, hy_⟩ : ∃ y_ : List (S40), y_ = (t661.take (t664 : Int).toNat) := ⟨_, rfl⟩
             replace H : (if 0 ≤ (wrap64 (t664 + 1)) then (if (wrap64 (t664 + 1)) ≤ (t661.length : Int) then (some ((t661.eraseIdx (t664 : Int).toNat), 0)) else (none)) else (none)) = some (r1, r2) := yh
             have Ny667 := ra hy_
             clear hy_
             obtain ⟨ji41, hji41⟩ : ∃ j_ : Int, (wrap64 (t664 + 1)) = j_ := ⟨_, rfl⟩
             replace H : (if 0 ≤ (ji41) then (if (ji41) ≤ (t661.length : Int) then (some ((t661.eraseIdx (t664 : Int).toNat), 0)) else (none)) else (none)) = some (r1, r2) := by first | (rw [hji41] at H; exact H) | (simp only [hji41] at H ⊢; exact H)
             have hji41w : (IntKind.i64.wrap (t664 + 1)) = ji41 := (i64_w _).trans hji41
             by_cases c42 : 0 ≤ (ji41)
             ·rw [if_pos c42] at H
              have c42b0 := eq_true c42
              have c42b1 : decide (0 ≤ (ji41)) = true := decide_eq_true c42
              clear c42
              by_cases c43 : (ji41) ≤ (t661.length : Int)
              ·rw [if_pos c43] at H
               have c43b0 := eq_true c43
               have c43b1 : decide ((ji41) ≤ (t661.length : Int)) = true := decide_eq_true c43
               clear c43
               obtain ⟨y671, hy_⟩ : ∃ y_ : List (S40), y_ = (t661.drop ((ji41) : Int).toNat) := ⟨_, rfl⟩
               replace H : (some ((t661.eraseIdx (t664 : Int).toNat), 0)) = some (r1, r2) := yh
               have Ny671 := ra hy_
               clear hy_
               obtain ⟨y675, hy_⟩ : ∃ y_ : List (S40), y_ = (t661.eraseIdx (t664 : Int).toNat) := ⟨_, rfl⟩
               replace H : (some (y675, 0)) = some (r1, r2) := yh
               have Ny675 := ra hy_
               clear hy_
               simp only [Option.some.injEq, Prod.mk.injEq] at H
               obtain ⟨rfl, rfl⟩ := H
               have hnb44 := NB659_658.out
               have hnc44 := NB658_659.out
               have hcz45_0 : wc.cell? ⟨gb659, 0, none⟩ = some (.bool true) := (blk_cell BK659.out 0).trans rfl
               have hcz45_1 : wc.cell? ⟨gb659, 1, none⟩ = some (.string a1_1) := (blk_cell BK659.out 1).trans rfl
               have hcz45_2 : wc.cell? ⟨gb659, 2, none⟩ = some (.slice A1_2 l1_2.length c1_2) := (blk_cell BK659.out 2).trans rfl
               have hfz45_0 := blk_frozen BK659.out 0
               have hfz45_1 := blk_frozen BK659.out 1
               have hfz45_2 := blk_frozen BK659.out 2
               try go_wp2
               have _ := ra (Kd.S_drew HO_6.out)
               have _ := ra (blk_drew BK658.out)
               have _ := ra (blk_drew BK659.out)
               have _ := ra (below_drew1 HB.out)
               clear HO_6 BK658 BK659 HB
               rename_i HO_6 BK658 BK659 HB
               obtain ⟨Ao48, co48, eo48⟩ := Kd.S_slice HO_6.out
               (first | subst eo48 | (injection eo48 with f1_ f2_ f3_; have f4_ := f1_.symm; have f5_ := f3_.symm; clear f1_ f2_ f3_; subst f4_; subst f5_))
               have q47 : (t664 : Int) ≤ ((t661.length : Int) : Int) := od
               obtain ⟨i047, hi047, _, hsz47, _⟩ := info_parts info40
               have hroom47 : t661.length ≤ co48 := (Kd.S_reads' HO_6.out).2.1
               have hC47 : Kd.C k40 _ Ao48 t661.length t661 := (Kd.S_reads' HO_6.out).2.2
               have hcut47 := cut_to (P := Try.prog) 26 40 .i64 Try.underlying26 hi047 Ao48 t661.length co48 t664 (od) q47 hroom47
               have hr47 := Kd.C_take (m := (t664 : Int).toNat) hC47 (by omega)
               have hy47 : y667.length = (t664 : Int).toNat := (by rw [Ny667.out, List.length_take]; omega)
               rw [← Ny667.out] at hr47
               rw [← hy47] at hcut47
               have HR670 := Aside0.mk hr47
               have HC670 := ra (show y667.length ≤ co48 from by omega)
               clear hr47 hC47 hroom47 hi047 hsz47
               have KY47 := Aside0.mk hy47
               clear hy47
               have KL47 := ra (show (t664 : Int).toNat ≤ t661.length from by omega)
               replace q47 := eq_true q47
               have q49 : ((ji41) : Int) ≤ ((t661.length : Int) : Int) := od
               obtain ⟨i049, hi049, _, hsz49, _⟩ := info_parts info40
               have hroom49 : t661.length ≤ co48 := (Kd.S_reads' HO_6.out).2.1
               have hC49 : Kd.C k40 _ Ao48 t661.length t661 := (Kd.S_reads' HO_6.out).2.2
               have q049 : (0 : Int) ≤ ((ji41) : Int) := od
               have hcut49 := cut_from (P := Try.prog) 26 40 .i64 Try.underlying26 hi049 2 hsz49 Ao48 t661.length co48 (ji41) q049 q49
               have hr49 := Kd.C_drop (m := ((ji41) : Int).toNat) (c := co48) hC49 (by omega) hroom49
               obtain ⟨A49, hA49⟩ : ∃ A1, A1 = (if co48 = ((ji41) : Int).toNat then Ao48 else (Ao48 : Option Addr).map (·.add (((ji41) : Int).toNat * 2))) := ⟨_, rfl⟩
               obtain ⟨c49, hc49⟩ : ∃ c1, c1 = co48 - ((ji41) : Int).toNat := ⟨_, rfl⟩
               have hy49 : y671.length = t661.length - ((ji41) : Int).toNat := (by rw [Ny671.out, List.length_drop] <;> omega)
               rw [show (t661).drop ((ji41) : Int).toNat = y671 from Ny671.out.symm] at hr49
               replace hr49 : Kd.C k40 _ A49 y671.length y671 := (by rw [hA49]; exact hr49)
               rw [← hy49, ← hA49, ← hc49] at hcut49
               have HR674 := Aside0.mk hr49
               have HC674 := ra (show y671.length ≤ c49 from by rw [hy49, hc49]; exact Nat.sub_le_sub_right hroom49 _)
               clear hr49 hC49 hroom49 hi049 hsz49 hc49
               have KY49 := Aside0.mk hy49
               have KA49 := Aside0.mk hA49
               clear hy49 hA49
               have KL49 := ra (show ((ji41) : Int).toNat ≤ t661.length from by omega)
               replace q49 := eq_true q49
               obtain ⟨go51, co51, eo51, gb51, gl51, cl51, HG51⟩ := Kd.S_form HO_6.out (by have hj_ : 0 ≤ (t664 : Int) := od; have hl_ : (ji41 : Int) ≤ (t661.length : Int) := od; have hh_ : (t664 : Int) ≤ (t661.length : Int) := od; rw [← hji41] at hl_; unfold wrap64 at hl_; omega)
               (first | cases eo51 | (injection eo51 with ea_ en_ ec_; (first | subst ea_ | (injection ea_ with ea_; subst ea_)); subst ec_; clear en_))
               have GB51 := Aside0.mk gb51
               have GG51 := Aside0.mk HG51
               clear gb51 gl51 HG51
               refine start_ (n := 10) (S := fun w' => True) (ds := []) (bl 10 0) (by kernel_rfl) rfl rfl trivial (fun hHeld => ?_); refine with_tabW impl_ProbeHappen.tab11 impl_ProbeHappen.bits11 (fun HT_ HW_ => ?_)
               generalize wc.drew = w46 at HO_6 BK658 BK659 HB GG51 HR670 HR674 hHeld ⊢
               refine pu 0 56 (bl 10 1) ?_
               refine pu 1 57 (bl 10 3) ?_
               refine pu 2 58 (bl 10 7) ?_
               refine pu 3 59 (bl 10 15) ?_
               refine pu 4 60 (bl 10 31) ?_
               refine pu 5 61 (bl 10 63) ?_
               refine pu 6 62 (bl 10 127) ?_
               refine oe 7 63 (bl 10 255) (fun K hK => ?_)
               have hj_ : 0 ≤ (t664 : Int) := od
               have hl_ : (ji41 : Int) ≤ (t661.length : Int) := od
               have hh_ : (t664 : Int) ≤ (t661.length : Int) := od
               have hb_ := (Kd.S_reads' HO_6.out).2.2.2.1
               have h0_ : (0 : Int) ≤ (ji41 : Int) := od
               have hy1_ := KY47.out
               have hk_ : (ji41 : Int).toNat = y667.length + 1 := (by have hw_ : (ji41 : Int) = t664 + 1 := (by have h00_ := h0_; rw [← hji41] at h00_ ⊢; unfold wrap64 at h00_ ⊢; omega); rw [hw_]; omega)
               refine Kd.S_delete_step k40 (w0 := w) w.heap.size (by rfl) (.tmp 58) (.tmp 62) 26 40 rfl Try.underlying26 (by kernel_rfl) (g := go51) (n := t661.length) (c := co48) (k := y667.length) rfl rfl ?hA ?hm (by (with_reducible repeat (first | apply Kd.S_alloc | apply Kd.S_drewN | apply Kd.S_drew)); exact HO_6.out) ?hk bq (below_size bq) ?_
               (case hA => have ha_ := KA49.out; rw [hk_] at ha_; exact ha_)
               (case hm => have ha_ := KY49.out; omega)
               (case hk => omega)
               intro w50 ho hb hg
               clear hj_ hl_ hh_ hb_ hk_ h0_
               rw [hy1_, ← Ny675.out] at ho
               clear hy1_
               have hn_ : t661.length - 1 = y675.length := (by have := (Kd.S_reads' ho).1; omega)
               rw [hn_] at ho ⊢
               clear hn_
               have _ := ra (ho)
               have _ := ra (blk_grown (g := gb658) (o := .cells #[.slice A0 l0.length c0] 26 (0, 0)) (bk BK658) hg (Kd.S_ne HO_6.out BK658.out (by decide)))
               have _ := ra (blk_grown (g := gb659) (o := .cells #[.bool true, .string a1_1, .slice A1_2 l1_2.length c1_2] 54 (0, 0)) (bk BK659) hg (Kd.S_ne HO_6.out BK659.out (by decide)))
               have _ := ra (hb)
               clear HO_6 BK658 BK659 HB
               rename_i HO_6 BK658 BK659 HB
               clear ho hb hg
               refine hK.out _ _ trivial (fun hHeld => ?_)
               clear hK K
               refine nm 63 ?_
               refine pu 8 4 (bl 10 511) ?_
               refine pu 9 5 (bl 10 1023) ?_
               refine done_ (done_of HT_.out (by kernel_rfl)) ?_
               try go_wp2
               go_ret2
               exact ⟨_, by first | rfl | (simp [errW_none, errW_some] <;> rfl) | (simp only [← hji41]; first | rfl | (simp [errW_none, errW_some] <;> rfl)) | (simp [*, errW_none, errW_some] <;> rfl), by (with_reducible repeat (first | apply Kd.S_alloc | apply Kd.S_drewN | apply Kd.S_drew)); exact HO_6.out, bq⟩
              ·rw [if_neg c43] at H
               exact absurd H (by simp)
             ·rw [if_neg c42] at H
              exact absurd H (by simp)
            ·rw [if_neg c40] at H
             exact absurd H (by simp)
           ·rw [if_neg c39] at H
            exact absurd H (by simp)
          ·replace c38 := Bool.eq_false_iff.mpr c38
           subst c38
           have H1 : (if x8_6 = true then ((impl_copyTube.f a1_1 l1_2).bind fun bt678 => (if 0 ≤ t664 then (if t664 < (t661.length : Int) then (some ((t661.set (t664 : Int).toNat (⟨bt678.1, bt678.2⟩ : S40)), 0)) else (none)) else (none))) else (if (l0.length : Int) = 24 then (some (t661, 4)) else ((impl_copyTube.f a1_1 l1_2).bind fun bt683 => (if 0 ≤ t664 then (if t664 ≤ (t661.length : Int) then (if t661.length ≤ 1000 then (some (t661.take (t664 : Int).toNat ++ (⟨bt683.1, bt683.2⟩ : S40) :: t661.drop (t664 : Int).toNat, 0)) else (none)) else (none)) else (none))))) = some (r1, r2) := by rw [if_neg (show ¬ (false = true) by decide)] at H; exact H
           clear H
           have H := H1
           clear H1
           by_cases c52 : x8_6 = true
           ·subst c52
            replace H := it H rfl
            obtain ⟨⟨t678, t679⟩, A53, H⟩ := bo H
            try dsimp only at H
            by_cases c54 : 0 ≤ t664
            ·rw [if_pos c54] at H
             have c54b0 : decide (0 ≤ t664) = true := decide_eq_true c54
             clear c54
             by_cases c55 : t664 < (t661.length : Int)
             ·rw [if_pos c55] at H
              have c55b0 : decide (t664 < (t661.length : Int)) = true := decide_eq_true c55
              clear c55
              obtain ⟨y682, hy_⟩ : ∃ y_ : List (S40), y_ = (t661.set (t664 : Int).toNat (⟨t678, t679⟩ : S40)) := ⟨_, rfl⟩
              replace H : (some (y682, 0)) = some (r1, r2) := yh
              have Ny682 := ra hy_
              clear hy_
              simp only [Option.some.injEq, Prod.mk.injEq] at H
              obtain ⟨rfl, rfl⟩ := H
              have hnb57 := NB659_658.out
              have hnc57 := NB658_659.out
              have hcz58_0 : wc.cell? ⟨gb659, 0, none⟩ = some (.bool false) := (blk_cell BK659.out 0).trans rfl
              have hcz58_1 : wc.cell? ⟨gb659, 1, none⟩ = some (.string a1_1) := (blk_cell BK659.out 1).trans rfl
              have hcz58_2 : wc.cell? ⟨gb659, 2, none⟩ = some (.slice A1_2 l1_2.length c1_2) := (blk_cell BK659.out 2).trans rfl
              have hfz58_0 := blk_frozen BK659.out 0
              have hfz58_1 := blk_frozen BK659.out 1
              have hfz58_2 := blk_frozen BK659.out 2
              go_wp2_with (first | ((with_reducible refine gate_callee (f := 61) rfl ?_); refine gl (some 70) Try.func61 #[.agg #[.string a1_1, .slice A1_2 l1_2.length c1_2]] ?_; (with_reducible refine (impl_copyTube.calls a1_1 _ _ l1_2 t678 t679 _ ?side1 ?side2 A53.out).mono ?_); (case side1 => exact sc HR1_2); (case side2 => exact HC1_2.out); rintro e w59 ⟨v680, rfl, ho0, hb⟩; obtain ⟨Aq680, cq680, eq680⟩ := Kd.R_slice ho0; subst eq680; refine ⟨_, rfl, ?_⟩; have _ := ra (Kd.S_elder' (by (with_reducible repeat (first | apply Kd.S_alloc | apply Kd.S_drewN | apply Kd.S_drew)); exact HO_6.out) (Kd.R_base ho0) hb); have _ := ra (Kd.R_lower ho0 (below_size bq)); have _ := bb (bk BK658) hb; have _ := bb (bk BK659) hb; have _ := bs hb; clear HO_6 BK658 BK659 HB; rename_i HO_6 HO681 BK658 BK659 HB; (try clear hb); (try clear hb2); (try clear hk); (try clear hi); (try clear ho0); have p56 : 0 ≤ (t664 : Int) := od; have q56 : (t664 : Int) < ((t661.length : Int) : Int) := od; obtain ⟨go56, co56, eo56, gb56, gl56, cl56, HG56⟩ := Kd.S_form HO_6.out (by omega); (first | cases eo56 | (injection eo56 with ea_ en_ ec_; (first | subst ea_ | (injection ea_ with ea_; subst ea_)); subst ec_; clear en_)); have GB56 := Aside0.mk gb56; have GG56 := Aside0.mk HG56; clear gb56 gl56 HG56; obtain ⟨_, ce56, hcl56, hM56, hcc56, hfr56, _, _⟩ := Kd.S_elem HO_6.out z40 (t664 : Int) p56 q56; obtain ⟨ve56_1, rfl, ge56_1⟩ := k40_openM hM56; have hx56_0 : w59.cell? ⟨go56, (t664 : Int).toNat * 2, none⟩ = some (.string ((rd_T40 t661 t664).f0)) := hcc56 0 _ rfl; have hx56_1 : w59.cell? ⟨go56, (t664 : Int).toNat * 2 + 1, none⟩ = some (ve56_1) := hcc56 1 _ rfl; have hf56_0 : w59.frozen? ⟨go56, (t664 : Int).toNat * 2, none⟩ = false := hfr56 0; have hf56_1 : w59.frozen? ⟨go56, (t664 : Int).toNat * 2 + 1, none⟩ = false := hfr56 1; clear hcl56 hcc56 hfr56 hM56; replace p56 := eq_true p56; replace q56 := eq_true q56; have n_ := ra (Kd.S_mono (ok' := (fun k_ => some k_ ≠ ((.slice Aq680 t679.length cq680 : Value) : Value).ownBlock)) HO_6.out (fun k_ hk => hk.2)); clear HO_6; have HO_6 := n_; clear n_; have HX60 := ra (show Kd.S k40 40 w59 w.heap.size (fun k_ => ((fun _ => True)) k_ ∧ ¬ ((fun k_ => some k_ = ((.slice Aq680 t679.length cq680 : Value) : Value).ownBlock)) k_) (.slice (some ⟨go56, 0, none⟩) t661.length co56) t661 from (by (with_reducible repeat (first | apply Kd.S_alloc | apply Kd.S_drewN | apply Kd.S_drew)); exact Kd.S_mono HO_6.out (fun k_ hk => ⟨trivial, fun e_ => hk e_⟩))); obtain ⟨oki60, ce60, hcl60, hM60, hcc60, hfr60, hoki60, hH60⟩ := Kd.S_elem HX60.out z40 (t664 : Int) (od) (by have h_ : (t664 : Int) < ((t661.length : Int) : Int) := od; first | exact h_ | (have e_ := (Kd.S_reads' HO_6.out).1; omega) | simpa using h_); obtain ⟨ve60_1, rfl, ge60_1⟩ := k40_openM hM60; have HP60 := Kd.S_seg hH60 (od) (by have h_ : (t664 : Int) < ((t661.length : Int) : Int) := od; first | exact h_ | (have e_ := (Kd.S_reads' HO_6.out).1; omega) | simpa using h_) (seg := [.string t678, (.slice Aq680 t679.length cq680 : Value)]) (j := 0) (show 2 ≤ 2 from by decide) (x' := (⟨t678, t679⟩ : S40)) (k40_mkM _ _ _ (⟨t678, t679⟩ : S40) (Kd.R_mono (Kd.R_tight rfl (Kd.R_mono (ok' := fun k_ => ((fun _ => True)) k_ ∧ k_ ≠ go56) (Kd.R_apart' (HO681.out) (Kd.S_typed HO_6.out) (by decide)) (fun k_ hk => ⟨trivial, fun e_ => (hk.2) (by rw [e_]; rfl)⟩))) (fun _ h_ => Or.inr (h_)))) (fun _ hk => hk) (fun k_ hk_ => ((Kd.R_mono (ok' := fun k_ => ((fun _ => True)) k_ ∧ k_ ≠ go56) (Kd.R_apart' (HO681.out) (Kd.S_typed HO_6.out) (by decide)) (fun k_ hk => ⟨trivial, fun e_ => (hk.2) (by rw [e_]; rfl)⟩))).1 k_ hk_.symm); have hx60_0 := hcc60 0 _ rfl; (try simp only [show (k40).sz = 2 from rfl, Nat.mul_one, Nat.add_zero] at hx60_0); have hf60_0 := hfr60 0; (try simp only [show (k40).sz = 2 from rfl, Nat.mul_one, Nat.add_zero] at hf60_0); have hx60_1 := hcc60 1 _ rfl; (try simp only [show (k40).sz = 2 from rfl, Nat.mul_one, Nat.add_zero] at hx60_1); have hf60_1 := hfr60 1; (try simp only [show (k40).sz = 2 from rfl, Nat.mul_one, Nat.add_zero] at hf60_1); clear hcl60 hcc60 hfr60 hM60 hoki60 hH60) | ((with_reducible refine gate_store (t := 40) (p := 71) rfl ?_); refine store_event (t := 40) (p := 71) (v := ?vo_w61) (w1 := ((w59.setCell ⟨go56, (t664 : Int).toNat * 2, none⟩ (.string t678)).setCell ⟨go56, (t664 : Int).toNat * 2 + 1, none⟩ ((.slice Aq680 t679.length cq680 : Value)))) ?hg ?ho ?hn ?hr ?_; (case ho => rfl); (case hg => rfl); (case hn => rfl); (case hr => first | (go_simp; done) | (go_simp; rfl)); intro w61 hw; have hg : w59.grownBy w61 (some go56) := (by rw [hw]; exact HP60.2); have hp_ : Kd.S k40 40 w61 w.heap.size (fun _ => True) (.slice (some ⟨go56, 0, none⟩) t661.length co56) y682 := (by rw [hw, Ny682.out]; exact HP60.1); clear HP60; have _ := ra (hp_); have _ := ra (blk_grown (g := gb658) (o := .cells #[.slice A0 l0.length c0] 26 (0, 0)) (bk BK658) hg (Kd.S_ne HO_6.out BK658.out (by decide))); have _ := ra (blk_grown (g := gb659) (o := .cells #[.bool false, .string a1_1, .slice A1_2 l1_2.length c1_2] 54 (0, 0)) (bk BK659) hg (Kd.S_ne HO_6.out BK659.out (by decide))); have _ := ra ((by rw [hw]; exact below_set (below_set (HB.out) GB56.out) GB56.out : Below w.heap.size w w61)); clear HO_6 BK658 BK659 HB HO681; rename_i HO_6 BK658 BK659 HB; clear hg hw hp_))
              go_ret2
              exact ⟨_, re, by (with_reducible repeat (first | apply Kd.S_alloc | apply Kd.S_drewN | apply Kd.S_drew)); exact HO_6.out, bq⟩
             ·rw [if_neg c55] at H
              exact absurd H (by simp)
            ·rw [if_neg c54] at H
             exact absurd H (by simp)
           ·replace c52 := Bool.eq_false_iff.mpr c52
            subst c52
            have H1 : (if (l0.length : Int) = 24 then (some (t661, 4)) else ((impl_copyTube.f a1_1 l1_2).bind fun bt683 => (if 0 ≤ t664 then (if t664 ≤ (t661.length : Int) then (if t661.length ≤ 1000 then (some (t661.take (t664 : Int).toNat ++ (⟨bt683.1, bt683.2⟩ : S40) :: t661.drop (t664 : Int).toNat, 0)) else (none)) else (none)) else (none)))) = some (r1, r2) := by rw [if_neg (show ¬ (false = true) by decide)] at H; exact H
            clear H
            have H := H1
            clear H1
            by_cases c62 : (l0.length : Int) = 24
            ·rw [if_pos c62] at H
             have c62b0 : ((l0.length : Int) == 24) = true := beq_iff_eq.mpr c62
             have c62b1 : ((l0.length : Int) != 24) = false := bne_eq_false_iff_eq.mpr c62
             clear c62
             simp only [Option.some.injEq, Prod.mk.injEq] at H
             obtain ⟨rfl, rfl⟩ := H
             have hnb63 := NB659_658.out
             have hnc63 := NB658_659.out
             have hcz64_0 : wc.cell? ⟨gb659, 0, none⟩ = some (.bool false) := (blk_cell BK659.out 0).trans rfl
             have hcz64_1 : wc.cell? ⟨gb659, 1, none⟩ = some (.string a1_1) := (blk_cell BK659.out 1).trans rfl
             have hcz64_2 : wc.cell? ⟨gb659, 2, none⟩ = some (.slice A1_2 l1_2.length c1_2) := (blk_cell BK659.out 2).trans rfl
             have hfz64_0 := blk_frozen BK659.out 0
             have hfz64_1 := blk_frozen BK659.out 1
             have hfz64_2 := blk_frozen BK659.out 2
             obtain ⟨hcz65_0, hfz65_0⟩ := zc1 BK658
             go_wp2
             go_ret2
             exact ⟨_, re, by (with_reducible repeat (first | apply Kd.S_alloc | apply Kd.S_drewN | apply Kd.S_drew)); exact HO_6.out, bq⟩
            ·rw [if_neg c62] at H
             have c62b0 : ((l0.length : Int) == 24) = false := beq_eq_false_iff_ne.mpr c62
             have c62b1 : ((l0.length : Int) != 24) = true := bne_iff_ne.mpr c62
             obtain ⟨⟨t683, t684⟩, A66, H⟩ := bo H
             try dsimp only at H
             by_cases c70 : 0 ≤ t664
             ·rw [if_pos c70] at H
              by_cases c71 : t664 ≤ (t661.length : Int)
              ·rw [if_pos c71] at H
               have hsmall : t661.length ≤ 1000 := by
                by_cases h : t661.length ≤ 1000
                ·exact h
                ·rw [if_neg h] at H; cases H
               rw [if_pos hsmall] at H
               have HSM := Aside0.mk hsmall
               clear hsmall
               simp only [Option.some.injEq, Prod.mk.injEq] at H
               obtain ⟨rfl, rfl⟩ := H
               obtain ⟨n, hn⟩ : ∃ n : Nat, t664 = (n : Int) := ⟨t664.toNat, (Int.toNat_of_nonneg c70).symm⟩
               subst hn
               have hnl : n ≤ t661.length := by omega
               have c70b := eq_true c70
               have c71b := eq_true c71
               clear c70 c71
               have hnb80 := NB659_658.out
               have hnc80 := NB658_659.out
               have hcz80_0 : wc.cell? ⟨gb659, 0, none⟩ = some (.bool false) := (blk_cell BK659.out 0).trans rfl
               have hcz80_1 : wc.cell? ⟨gb659, 1, none⟩ = some (.string a1_1) := (blk_cell BK659.out 1).trans rfl
               have hcz80_2 : wc.cell? ⟨gb659, 2, none⟩ = some (.slice A1_2 l1_2.length c1_2) := (blk_cell BK659.out 2).trans rfl
               have hcz81_0 : wc.cell? ⟨gb658, 0, none⟩ = some (.slice A0 l0.length c0) := (blk_cell BK658.out 0).trans rfl
               have hfz80_0 := blk_frozen BK659.out 0
               have hfz80_1 := blk_frozen BK659.out 1
               have hfz80_2 := blk_frozen BK659.out 2
               have hfz81_0 := blk_frozen BK658.out 0
               try go_wp2
               have qz0_ := ra (Kd.S_drew HO_6.out)
               have qz1_ := ra (blk_drew BK659.out)
               have qz2_ := ra (below_drew1 HB.out)
               clear HO_6 BK658 BK659 HB
               have HO_6 := qz0_
               have BK659 := qz1_
               have HB := qz2_
               clear qz0_ qz1_ qz2_
               obtain ⟨Ao48, co48, eo48⟩ := Kd.S_slice HO_6.out
               subst eo48
               have hroom := (Kd.S_reads' HO_6.out).2.1
               obtain ⟨i0, hi0, hz0, hsz0, hby0⟩ := info_parts info40
               have hcut := cut_from (P := Try.prog) 26 40 .i64 Try.underlying26 hi0 2 hsz0 Ao48 t661.length co48 (n : Int) (by omega) (by omega)
               rw [Int.toNat_natCast] at hcut
               obtain ⟨A84, hA84⟩ : ∃ A1, A1 = (if co48 = n then Ao48 else Ao48.map (·.add (n * 2))) := ⟨_, rfl⟩
               rw [← hA84] at hcut
               have KA84 := Aside0.mk hA84
               clear hA84
               have HR_ := Aside0.mk hroom
               have HL_ := Aside0.mk hnl
               clear hroom hnl
               refine start_ (n := 9) (S := fun w' => w'.cell? ⟨gb659, 1, none⟩ = some (.string a1_1) ∧ w'.cell? ⟨gb659, 2, none⟩ = some (.slice A1_2 l1_2.length c1_2)) (ds := []) (bl 9 0) (by kernel_rfl) rfl rfl ⟨(blk_cell BK659.out 1).trans rfl, (blk_cell BK659.out 2).trans rfl⟩ (fun hHeld => ?_); refine with_tabW impl_ProbeHappen.tab17 impl_ProbeHappen.bits17 (fun HT_ HW_ => ?_)
               generalize wc.drew = w80 at HO_6 BK659 HB hHeld ⊢
               refine pu 0 78 (bl 9 1) ?_
               refine tk 1 79 (bl 9 3) ?_ hHeld
               refine pu 4 82 (bl 9 19) ?_
               refine pu 5 83 (bl 9 51) ?_
               refine pu 6 84 (bl 9 115) ?_
               refine oe 2 80 (bl 9 119) (fun K hK => ?_)
               refine gs Try.func61 #[.agg #[.string a1_1, .slice A1_2 l1_2.length c1_2]] ?_
               with_reducible refine (impl_copyTube.calls a1_1 _ _ l1_2 t683 t684 _ ?side1 ?side2 A66.out).mono ?_
               (case side1 => exact sc HR1_2)
               (case side2 => exact HC1_2.out)
               rintro e w81 ⟨v683, rfl, ho0, hb⟩
               refine ⟨_, rfl, ?_⟩
               obtain ⟨A683, c683, e683⟩ := Kd.R_slice ho0
               subst e683
               have HX683 := Aside0.mk ho0
               have HB81 := Aside0.mk hb
               have qz0_ := bb (o := .cells #[.bool false, .string a1_1, .slice A1_2 l1_2.length c1_2] 54 (0, 0)) BK659.out hb
               clear BK659
               have BK659 := qz0_
               clear qz0_ ho0 hb
               refine hK.out _ _ ⟨(blk_cell BK659.out 1).trans rfl, (blk_cell BK659.out 2).trans rfl⟩ (fun hHeld => ?_)
               clear hK K
               refine nm 80 ?_
               refine oe 3 81 (bl 9 127) (fun K hK => ?_)
               refine Kd.R_lit_step (Kd.raw 2) _ 40 ?hg (N := 81) ?hd (xs := [[.string t683, .slice A683 t684.length c683]]) (inner := [.string t683, .slice A683 t684.length c683]) (ok := fun _ => True) (okp := fun _ => True) ?hr ?hp (fun _ hk => hk) trivial (Below.refl _ _) (Nat.le_refl _) (by simp) ?_; (case hd => rfl); (case hg => rfl); (case hr => first | (go_simp; done) | (go_simp; rfl)); (case hp => exact Reps.snoc (ps := []) (cs := []) (Reps.none _ _) (show Kd.M (Kd.raw 2) _ _ _ [.string t683, .slice A683 t684.length c683] [.string t683, .slice A683 t684.length c683] from ⟨rfl, rfl, fun u hu => by simp only [List.mem_cons, List.not_mem_nil, or_false] at hu; rcases hu with rfl | rfl <;> rfl⟩) rfl)
               intro v82 w82 ho7 hb hg82 hnew_
               have HX82 := Aside0.mk ho7
               have HG82 := Aside0.mk hg82
               have HN82 := Aside0.mk hnew_
               have HB82 := Aside0.mk hb
               have qz0_ := bb (o := .cells #[.bool false, .string a1_1, .slice A1_2 l1_2.length c1_2] 54 (0, 0)) BK659.out hb
               clear BK659
               have BK659 := qz0_
               clear qz0_ ho7 hb hg82 hnew_
               refine hK.out _ _ ⟨(blk_cell BK659.out 1).trans rfl, (blk_cell BK659.out 2).trans rfl⟩ (fun hHeld => ?_)
               clear hK K
               refine nm 81 ?_
               obtain ⟨f6, h06, inn6, ho6, hr6⟩ := HO_6.out
               rw [List.length_zipIdx] at ho6
               have hrl6 := hr6.1
               rw [List.length_zipIdx] at hrl6
               have hW82 : ∀ k, k < w80.heap.size → w82.heap[k]? = w80.heap[k]? := fun k hk => (HB82.out.block k (Nat.lt_of_lt_of_le hk HB81.out.size)).trans (HB81.out.block k hk)
               have HW82 := Aside0.mk hW82
               clear hW82
               obtain ⟨news, hnews⟩ : ∃ ns : List (List Value), ns = (List.range (t661.length - n)).map fun j => (inn6.drop ((n + j) * 2)).take 2 := ⟨_, rfl⟩
               have HNW := Aside0.mk hnews
               clear hnews
               have HO6 := Aside0.mk ho6
               have HR6 := Aside0.mk hr6
               have HL6 := Aside0.mk hrl6
               clear h06 ho6 hr6 hrl6
               refine oe 7 85 (bl 9 255) (fun K hK => ?_)
               refine Kd.R_append_rows_step (Kd.raw 2) (w0 := w81) w81.heap.size (by rfl) (.tmp 81) (.tmp 84) 26 40 (.agg #[.string ⟨#[]⟩, .slice none 0 0]) 40 rfl Try.underlying26 info40 rfl (by decide) (by omega) v82 [[.string t683, .slice A683 t684.length c683]] news _ _ _ (fun _ => True) (fun _ => False) rfl rfl ?aO ?aR (fun _ _ h => h) (fun _ h => h.elim) ?aF ?aB ?aS ?aL ?_
               (case aO => exact HX82.out)
               (case aF => exact (fun _ _ => trivial))
               (case aB => exact HB82.out)
               (case aS => exact HB82.out.size)
               (case aL => have := HSM.out; simp only [List.length_cons, List.length_nil]; omega)
               (case aR => rw [HNW.out, KA84.out]; exact Z.tail_reads HO6.out HW82.out (Z.reps_one (show 0 < 2 from by decide) HR6.out) HL_.out HSM.out)
               intro v83 w83 ho8 hb83 hg83 hat83
               have HX83 := Aside0.mk ho8
               have HG83 := Aside0.mk hg83
               have HB83 := Aside0.mk hb83
               clear ho8 hb83 hg83 hat83
               have qz0_ := ra (blk_grown (g := gb659) (o := .cells #[.bool false, .string a1_1, .slice A1_2 l1_2.length c1_2] 54 (0, 0)) BK659.out HG83.out (Kd.R_ne HX82.out BK659.out (by decide)))
               clear BK659
               have BK659 := qz0_
               clear qz0_
               refine hK.out _ _ ⟨(blk_cell BK659.out 1).trans rfl, (blk_cell BK659.out 2).trans rfl⟩ (fun hHeld => ?_)
               clear hK K
               refine nm 85 ?_
               refine pu 8 9 (bl 9 511) ?_
               refine done_ (done_of HT_.out (by kernel_rfl)) ?_
               obtain ⟨g83, c83, eo83, _, _, _⟩ := Kd.R_form HX83.out (by simp)
               subst eo83
               obtain ⟨_, inn85, ho85, hr85⟩ := HX83.out
               have hW83 : ∀ k, k < w80.heap.size → w83.heap[k]? = w80.heap[k]? := fun k hk => (HG83.out.block k (Nat.lt_of_lt_of_le (Nat.lt_of_lt_of_le hk HB81.out.size) HB82.out.size) (fun he => by
                obtain ⟨b, hb, hle⟩ := HN82.out
                rw [hb] at he
                injection he with he
                have := HB81.out.size
                omega)).trans (HW82.out k hk)
               have HW83 := Aside0.mk hW83
               clear hW83
               have HO85 := Aside0.mk ho85
               have HR85 := Aside0.mk hr85
               clear ho85 hr85
               have hmax := Z.cut_max (P := Try.prog) 26 40 .i64 .i64 Try.underlying26 hi0 Ao48 t661.length co48 n (Nat.le_trans HL_.out HR_.out)
               have hlen85 : n + (([[.string t683, .slice A683 t684.length c683]] : List (List Value)) ++ news).length = t661.length + 1 := by
                have := HL_.out
                rw [HNW.out, List.length_append, List.length_map, List.length_range, List.length_singleton]
                omega
               have HLN := Aside0.mk hlen85
               clear hlen85
               go_wp2_with (first | ((with_reducible refine gate_builtin (b := .append) (xs := #[.tmp 89, .tmp 90]) rfl ?_); at_builtin; refine wpList_append_grows w83 rfl (.tmp 89) (.tmp 90) 26 rfl 40 i0 (.agg #[.string ⟨#[]⟩, .slice none 0 0]) 2 40 Try.underlying26 hi0 hz0 hsz0 hby0 rfl (by decide) Ao48 n n (inn6.take (n * 2)) rfl ?hnone ?hlo ?holds ⟨g83, 0, none⟩ _ _ inn85 rfl ?hn ?hc ?h1c ?hfull ?b1 ?b2 ?_; (case hnone => exact Z.own_none HO6.out HL_.out); (case hlo => have := HL_.out; have h2 : inn6.length = t661.length * 2 := HL6.out; rw [List.length_take]; omega); (case holds => exact Z.own_holds HO6.out HW83.out); (case hn => exact HR85.out.1); (case hc => exact HO85.out.cells rfl); (case h1c => exact Z.reps_one (show 0 < 2 from by decide) HR85.out); (case hfull => simp only [List.length_append, List.length_singleton]; omega); (case b1 => have := HLN.out; have := HSM.out; unfold maxLen; omega); (case b2 => have := HLN.out; have := HSM.out; omega); intro v84 w84 hown hgrow; have HO84 := Aside0.mk hown; have HG84 := Aside0.mk hgrow; clear hown hgrow))
               go_ret2
               have hs81 := HB81.out.size
               have hs82 := HB82.out.size
               have hs83 := HG83.out.size
               have hW84 : ∀ k, k < w83.heap.size → w84.heap[k]? = w83.heap[k]? := fun k hk => HG84.out.block k hk (by simp)
               have hown := HO84.out
               rw [HLN.out] at hown
               refine ⟨_, rfl, ?_, Below.grown (below_step (below_step HB.out HB81.out) HB83.out) HG84.out (Nat.le_trans HB.out.size (Nat.le_trans hs81 HB83.out.size)) (fun k hk => by simp at hk)⟩
               ·refine Z.S_insert (d := k40) (W := w80) (W2 := w81) (f := f6) (inner := inn6) (in85 := inn85) (c := [.string t683, .slice A683 t684.length c683]) (N := w83.heap.size) HL_.out HL6.out (fun j p hj => k40.M_mono (fun _ hk => hk.2) (HR6.out.2 j (p, j) (Kd.zip_at hj))) (k40_mkM _ _ _ (⟨t683, t684⟩ : S40) HX683.out) (fun k hk => (hW84 k (by omega)).trans (HW83.out k hk)) (fun k hk => (hW84 k (by omega)).trans (HB83.out.block k hk)) hs81 HB83.out.size HB.out.size hown ?_ ?_ ?_
                ·have h := HR85.out.1
                 rw [HNW.out, List.length_append, List.length_map, List.length_range, List.length_singleton] at h
                 exact h
                ·exact (HR85.out.2 0 _ rfl).1
                ·intro j hj
                 refine (HR85.out.2 (j + 1) ((inn6.drop ((n + j) * 2)).take 2) ?_).1
                 rw [HNW.out, List.singleton_append, List.getElem?_cons_succ, List.getElem?_map, List.getElem?_range hj]
                 rfl
              ·rw [if_neg c71] at H
               exact absurd H (by simp)
             ·rw [if_neg c70] at H
              exact absurd H (by simp)
 ·replace c4 := Bool.eq_false_iff.mpr c4
  subst c4
  have H1 : (some (([] : List (S40)), 1)) = some (r1, r2) := by rw [if_neg (show ¬ (false = true) by decide)] at H; exact H
  clear H
  have H := H1
  clear H1
  simp only [Option.some.injEq, Prod.mk.injEq] at H
  obtain ⟨rfl, rfl⟩ := H
  go_enter Try.func29, Try.ntmps29
  go_wp2_with (first | ((with_reducible refine gate_dst (N := 2) rfl ?_); refine be 2 #[.slice A0 l0.length c0] 26 ?_; intro gb658 hg w67 hbox hb; have _ := bs hb; have _ := ra (hbox); have _ := bz (w0 := w) hg; have _ := bz (w0 := w) hg; clear HB; rename_i HB BK658 GW658 GE658; clear hb hbox hg) | ((with_reducible refine gate_dst (N := 3) rfl ?_); refine be 3 #[.bool a1_0, .string a1_1, .slice A1_2 l1_2.length c1_2] 54 ?_; intro gb659 hg w68 hbox hb; have _ := bb (bk BK658) hb; have _ := bs hb; have _ := ra (hbox); have _ := bz (w0 := w) hg; have _ := bz (w0 := w) hg; have _ := bn hg (bk BK658); have _ := bm hg (bk BK658); clear BK658 HB; rename_i BK658 HB BK659 GW659 GE659 NB658_659 NB659_658; clear hb hbox hg; have hnb69 := NB658_659.out; have hnc69 := NB659_658.out; obtain ⟨hcz70_0, hfz70_0⟩ := zc1 BK658) | ((with_reducible refine gate_callee (f := 26) rfl ?_); refine gl (some 11) Try.func26 #[.slice A0 l0.length c0] ?_; (with_reducible refine (impl_ProbeSkyOk.calls k _ _ l0 false _ ?side1 ?side2 A3.out).mono ?_); (case side1 => exact sc HR0); (case side2 => exact HC0.out); rintro e w71 ⟨rfl, hb⟩; refine ⟨_, rfl, ?_⟩; have _ := bb (bk BK658) hb; have _ := bb (bk BK659) hb; have _ := bs hb; clear BK658 BK659 HB; rename_i BK658 BK659 HB; (try clear hb); (try clear hb2); (try clear hk); (try clear hi)))
  go_ret2
  exact ⟨_, re, by first | exact Kd.S_nil _ _ _ _ _ | exact Kd.N_nil _ _ _ _ _ | exact Kd.V_nil _ _ _ _ _ | exact Kd.Q_nil _ _ _ _ _ | exact Kd.R_nil _ _ _ _ _, bq⟩
end Go.Proofs.Ytdbomnhdpniigaa.PA
