/- Contracts of the functions spec_l2Copy, spec_l2List, spec_l6At, spec_ProbeHappen. (Began as a print of the kit's tool.) -/
import Derived.Test.YtdbomnhdpniigaaPAd
import Derived.Test.YtdbomnhdpniigaaCx
import Derived.Test.YtdbomnhdpniigaaCm
import Derived.Test.YtdbomnhdpniigaaCy
import Derived.Test.YtdbomnhdpniigaaGSkyS
import Derived.Test.YtdbomnhdpniigaaGBase
namespace Go.Proofs.Ytdbomnhdpniigaa.PA
open Go.RowKit Go.Proofs.YtdbomnhdpniigaaW.PrintWords Go.Proofs.YtdbomnhdpniigaaW.PrintLast Go.Proofs.YtdbomnhdpniigaaW.PrintMore Go.Proofs.Ytdbomnhdpniigaa.Z
attribute [local go_sem] max2_int min2_int max_two min_two max_three min_three max_four min_four
set_option linter.unusedVariables false
set_option linter.unusedSimpArgs false
def spec_l2Copy.T1 : Bool × List (List Nat × List Nat) := (true, [([], []), ([0], [0]), ([], []), ([], []), ([3], [3]), ([2, 4], [2, 4]), ([1, 5], [1, 5]), ([6, 5, 0, 1, 2, 3, 4, 5, 6], [6])])
def spec_l2Copy.B1 : List Nat := [0, 1, 0, 0, 8, 28, 63, 127]
theorem spec_l2Copy.tab1 : rtab .any (opsOf Try.f89 1) = spec_l2Copy.T1 := by kernel_rfl
theorem spec_l2Copy.bits1 : waitsOk spec_l2Copy.T1.2 spec_l2Copy.B1 = true := by kernel_rfl
set_option maxHeartbeats 8000000 in
set_option maxRecDepth 100000 in
theorem spec_l2Copy.calls (a0_0 : ByteArray) (A0_1 : Option Addr) (c0_1 : Nat) (l0_1 : List (S95)) (r1 : ByteArray) (r2 : List (S95)) (w : World) (hr0_1 : Kd.C k95 w A0_1 l0_1.length l0_1) (hc0_1 : l0_1.length ≤ c0_1) (h : spec_l2Copy.f a0_0 l0_1 = some (r1, r2)) :
  Calls Try.prog 89 #[.agg #[.string a0_0, .slice A0_1 l0_1.length c0_1]] w fun e w' => ∃ v1_ : Value, e = .returned (.agg #[.string r1, v1_]) ∧ Kd.R k95 95 w' w.heap.size (fun _ => True) v1_ r2 ∧ Below w.heap.size w w' := by
 have hu40 := Try.underlying40
 have HR0_1 := Aside0.mk hr0_1
 have HC0_1 := Aside0.mk hc0_1
 clear hr0_1 hc0_1
 have HB := ra (Below.refl w.heap.size w)
 have H : ((some (([] : List (S95)) : List (S95))).bind fun y516 => (if y516.length + l0_1.length < 2932031007402 then (some (a0_0, (y516 ++ l0_1))) else (none))) = some (r1, r2) := h
 clear h
 obtain ⟨y516, hy_⟩ : ∃ y_ : List (S95), y_ = (([] : List (S95))) := ⟨_, rfl⟩
 replace H : (if y516.length + l0_1.length < 2932031007402 then (some (a0_0, (y516 ++ l0_1))) else (none)) = some (r1, r2) := yh
 have Ny516 := ra hy_
 clear hy_
 by_cases c2 : y516.length + l0_1.length < 2932031007402
 ·rw [if_pos c2] at H
  have LMc2 := Aside0.mk c2
  clear c2
  obtain ⟨y519, hy_⟩ : ∃ y_ : List (S95), y_ = (y516 ++ l0_1) := ⟨_, rfl⟩
  replace H : (some (a0_0, y519)) = some (r1, r2) := yh
  have Ny519 := ra hy_
  clear hy_
  simp only [Option.some.injEq, Prod.mk.injEq] at H
  obtain ⟨rfl, rfl⟩ := H
  go_enter Try.func89, Try.ntmps89
  try go_wp2_with (first | ((with_reducible refine gate_dst (N := 1) rfl ?_); refine be 1 #[.string a0_0, .slice A0_1 l0_1.length c0_1] 40 ?_; intro gb514 hg w3 hbox hb; have _ := bs hb; have _ := ra (hbox); have _ := bz (w0 := w) hg; have _ := bz (w0 := w) hg; clear HB; rename_i HB BK514 GW514 GE514; clear hb hbox hg) | ((with_reducible refine gate_dst (N := 2) rfl ?_); refine be 2 #[.string (⟨#[]⟩ : ByteArray), .slice none 0 0] 40 ?_; intro gb515 hg w4 hbox hb; have _ := bb (bk BK514) hb; have _ := bs hb; have _ := ra (hbox); have _ := bz (w0 := w) hg; have _ := bz (w0 := w) hg; have _ := bn hg (bk BK514); have _ := bm hg (bk BK514); clear BK514 HB; rename_i BK514 HB BK515 GW515 GE515 NB514_515 NB515_514; clear hb hbox hg))
  have _ := ra (blk_drew BK514.out)
  have _ := ra (blk_drew BK515.out)
  have _ := ra (below_drew1 HB.out)
  clear BK514 BK515 HB
  rename_i BK514 BK515 HB
  refine start_ (n := 8) (S := fun w' => w'.cell? ⟨gb514, 0, none⟩ = some (.string a0_0) ∧ w'.cell? ⟨gb514, 1, none⟩ = some (.slice A0_1 l0_1.length c0_1)) (ds := []) (bl 8 0) (by kernel_rfl) rfl rfl ⟨(blk_cell BK514.out 0).trans rfl, (blk_cell BK514.out 1).trans rfl⟩ (fun hHeld => ?_); refine with_tabW spec_l2Copy.tab1 spec_l2Copy.bits1 (fun HT_ HW_ => ?_)
  generalize w4.drew = w5 at BK514 BK515 HB hHeld ⊢
  refine pu 0 3 (bl 8 1) ?_
  refine pu 3 6 (bl 8 9) ?_
  refine tk 1 4 (bl 8 11) ?_ hHeld
  refine tk 4 7 (bl 8 27) ?_ hHeld
  refine oe 2 5 (bl 8 31) (fun K hK => ?_)
  refine Kd.R_lit_step k95 _ 95 ?hg (N := 5) ?hd (xs := ([] : List (S95))) (inner := []) (ok := fun _ => True) (okp := fun _ => True) ?hr ?hp (fun _ hk => hk) trivial (Below.refl _ _) (Nat.le_refl _) (by simp) ?_; (case hd => rfl); (case hg => rfl); (case hr => first | (go_simp; done) | (go_simp; rfl)); (case hp => exact (Reps.none _ _))
  intro v517 w6 ho7 hb hg_ hnew_
  clear hg_ hnew_
  (first | rw [← Ny516.out] at ho7 | (simp only [Int.reduceToNat] at ho7; rw [← Ny516.out] at ho7))
  have _ := ra (Kd.R_lower ho7 (below_size bq))
  have _ := bb (bk BK514) hb
  have _ := bb (bk BK515) hb
  have _ := bs hb
  clear BK514 BK515 HB
  rename_i HO518 BK514 BK515 HB
  clear hb ho7
  refine hK.out _ _ ⟨(blk_cell BK514.out 0).trans rfl, (blk_cell BK514.out 1).trans rfl⟩ (fun hHeld => ?_)
  clear hK K
  refine nm 5 ?_
  refine oe 5 8 (bl 8 63) (fun K hK => ?_)
  refine Kd.R_append_rows_step k95 (w0 := w) w.heap.size (by rfl) (.tmp 5) (.tmp 7) 38 95 (.agg #[(.int .i64 0), (.int .i64 0), (.int .i64 0), (.int .i64 0), (.int .i64 0), (.int .i64 0)]) 48 rfl Try.underlying38 info95 rfl (by decide) (by omega) v517 y516 l0_1 _ _ _ (fun _ => True) (fun _ => False) rfl rfl ?aO ?aR (fun _ _ h => h) (fun _ h => h.elim) ?aF ?aB ?aS ?aL ?_
  (case aR => exact sc HR0_1)
  (case aB => exact bq)
  (case aF => exact (fun _ _ => trivial))
  (case aO => exact (rq HO518))
  (case aS => exact (below_size bq))
  (case aL => have := LMc2.out; omega)
  intro v520 w8 ho hb hg hat
  rw [← Ny519.out] at ho
  have _ := ra (blk_grown (g := gb514) (o := .cells #[.string a0_0, .slice A0_1 l0_1.length c0_1] 40 (0, 0)) (bk BK514) hg (Kd.R_ne HO518.out BK514.out (by decide)))
  have _ := ra (blk_grown (g := gb515) (o := .cells #[.string (⟨#[]⟩ : ByteArray), .slice none 0 0] 40 (0, 0)) (bk BK515) hg (Kd.R_ne HO518.out BK515.out (by decide)))
  have _ := ra (hb)
  have _ := ra (ho)
  clear BK514 BK515 HB HO518
  rename_i BK514 BK515 HB HO521
  clear ho hb hg hat
  obtain ⟨Ao9, co9, eo9⟩ := Kd.R_slice HO521.out
  (first | subst eo9 | (injection eo9 with f1_ f2_ f3_; have f4_ := f1_.symm; have f5_ := f3_.symm; clear f1_ f2_ f3_; subst f4_; subst f5_))
  refine hK.out _ _ ⟨(blk_cell BK514.out 0).trans rfl, (blk_cell BK514.out 1).trans rfl⟩ (fun hHeld => ?_)
  clear hK K
  refine nm 8 ?_
  refine pu 6 9 (bl 8 127) ?_
  refine one_ (i := 7) (N := none) #[true, true, true, true, true, true, true, true] rfl rfl (one_of HT_.out (by kernel_rfl)) (by decide) (fun K hK => ?_)
  have hs10 : w8.cell? ⟨gb515, 0, none⟩ = some (.string (⟨#[]⟩ : ByteArray)) := (blk_cell BK515.out 0).trans rfl
  have hfs10 := blk_frozen BK515.out 0
  have hns10_0 := NB514_515.out
  have hms10_0 := NB515_514.out
  have hs11 : w8.cell? ⟨gb515, 1, none⟩ = some (.slice none 0 0) := (blk_cell BK515.out 1).trans rfl
  have hfs11 := blk_frozen BK515.out 1
  have hns11_0 := NB514_515.out
  have hms11_0 := NB515_514.out
  refine skip_ (w1 := ?_) (by rfl) rfl ?_ ?_
  rotate_left
  ·go_simp
   rfl
  refine hK.out _ _ ⟨((cell_far (p := ⟨gb515, _, none⟩) NB514_515.out _).trans (((cell_far (p := ⟨gb515, _, none⟩) NB514_515.out _).trans (hHeld.1)))), ((cell_far (p := ⟨gb515, _, none⟩) NB514_515.out _).trans (((cell_far (p := ⟨gb515, _, none⟩) NB514_515.out _).trans (hHeld.2))))⟩ (fun hHeld => ?_)
  clear hK K
  refine done_ (done_of HT_.out (by kernel_rfl)) ?_
  try go_wp2
  refine bodyPost_ret (results_cell_row rfl _ _ gb515 40 #[.string a0_0, .slice Ao9 y519.length co9] (0, 0) _ rfl (bp BK515) Try.underlying40 rfl (by kernel_rfl)) rfl ?_
  exact ⟨_, re, by (with_reducible repeat (first | apply Kd.R_alloc | apply Kd.R_drewN | apply Kd.R_drew)); exact Kd.R_mono (rf (Kd.R_types HO521.out BK515.out (by decide))) (fun _ hk => trivial), bq⟩
 ·rw [if_neg c2] at H
  exact absurd H (by simp)
set_option maxHeartbeats 8000000 in
set_option maxRecDepth 100000 in
theorem spec_l2List.calls (k : Nat) (A0 : Option Addr) (c0 : Nat) (l0 : List (S40)) (r : List (S40)) (w : World) (hr0 : Kd.C k40 w A0 l0.length l0) (hc0 : l0.length ≤ c0) (h : spec_l2List.f k l0 = some r) :
  Calls Try.prog 62 #[.slice A0 l0.length c0] w fun e w' => ∃ v0_ : Value, e = .returned (v0_) ∧ Kd.S k40 40 w' w.heap.size (fun _ => True) v0_ r ∧ Below w.heap.size w w' := by
 have hu40 := Try.underlying40
 have HR0 := Aside0.mk hr0
 have HC0 := Aside0.mk hc0
 clear hr0 hc0
 have HB := ra (Below.refl w.heap.size w)
 have H : (spec_l2List.l0 k l0 (([] : List (S40))) 0) = some r := h
 clear h
 obtain ⟨y720, hy_⟩ : ∃ y_ : List (S40), y_ = (([] : List (S40))) := ⟨_, rfl⟩
 replace H : (spec_l2List.l0 k l0 y720 0) = some r := yh
 have Ny720 := ra hy_
 clear hy_
 have H' := Aside0.mk H
 clear H
 go_enter Try.func62, Try.ntmps62
 go_wp2_with (first | ((with_reducible refine gate_dst (N := 5) rfl ?_); refine Kd.S_lit k40 _ 40 ?hg (N := 5) ?hd (xs := ([] : List (S40))) (inner := []) (ok := fun _ => True) (okp := fun _ => True) ?hr ?hp (fun _ hk => hk) trivial (Below.refl _ _) (Nat.le_refl _) (by simp) ?_; (case hd => rfl); (case hg => rfl); (case hr => first | (go_simp; done) | (go_simp; rfl)); (case hp => exact (Reps.none _ _)); intro v721 w2 ho3 hb hg_ hnew_; clear hg_ hnew_; (first | rw [← Ny720.out] at ho3 | (simp only [Int.reduceToNat] at ho3; rw [← Ny720.out] at ho3)); have _ := ra (Kd.S_lower ho3 (below_size bq)); have _ := bs hb; clear HB; rename_i HO722 HB; clear hb ho3))
 go_loopg [3, 4] k (fun kq v3 v4 w' => ∃ (x3_1 : List (S40)) (x4_1 : Int), v4 = .int .i64 x4_1 ∧ Aside0 (spec_l2List.l0 kq l0 x3_1 x4_1 = some r) ∧ Aside0 (kq ≤ k) ∧ Aside0 (Kd.S k40 40 w' w.heap.size (fun _ => True) v3 x3_1) ∧ Aside0 (Below w.heap.size w w'))
 case atStart => exact ⟨(y720), (0), rs, H', ⟨Nat.le_refl _⟩, ⟨by (with_reducible repeat (first | apply Kd.S_alloc | apply Kd.S_drewN | apply Kd.S_drew)); exact HO722.out⟩, ⟨bq⟩⟩
 case round =>
  clear H'
  obtain ⟨x3_1, x4_1, rfl, HA, HK1, HO_3, HB⟩ := hrel
  cases gk with
  | zero => exact absurd HA.out (by simp [spec_l2List.l0])
  | succ k1 =>
   have H := HA.out
   clear HA
   simp only [spec_l2List.l0] at H
   by_cases c4 : x4_1 < (l0.length : Int)
   ·rw [if_pos c4] at H
    have c4b0 : decide (x4_1 < (l0.length : Int)) = true := decide_eq_true c4
    clear c4
    by_cases c5 : 0 ≤ x4_1
    ·rw [if_pos c5] at H
     have c5b0 : decide (0 ≤ x4_1) = true := decide_eq_true c5
     clear c5
     obtain ⟨⟨t724, t725⟩, A6, H⟩ := bo H
     try dsimp only at H
     by_cases c7 : x3_1.length < 3518437208883
     ·rw [if_pos c7] at H
      have LMc7 := Aside0.mk c7
      clear c7
      obtain ⟨y728, hy_⟩ : ∃ y_ : List (S40), y_ = (x3_1 ++ [(⟨t724, t725⟩ : S40)]) := ⟨_, rfl⟩
      replace H : (spec_l2List.l0 k1 l0 y728 (wrap64 (x4_1 + 1))) = some r := yh
      have Ny728 := ra hy_
      clear hy_
      have H' := Aside0.mk H
      clear H
      have p723 : 0 ≤ (x4_1 : Int) := od
      have q723 : x4_1 < (l0.length : Int) := od
      obtain ⟨ad723, A723_1, c723_1, e723, hx723_0, hx723_1, hl723_1, hi723_1⟩ := at_T40 HR0.out x4_1 p723 q723
      cases e723
      replace hx723_0 := hc HB hx723_0
      replace hx723_1 := hc HB hx723_1
      have HR723_1 := Aside0.mk hi723_1
      have HC723_1 := Aside0.mk hl723_1
      clear hi723_1 hl723_1
      replace p723 := eq_true p723
      replace q723 := eq_true q723
      go_wp2_with (first | ((with_reducible refine gate_callee (f := 89) rfl ?_); refine gl (some 17) Try.func89 #[.agg #[.string ((rd_T40 l0 x4_1).f0), .slice A723_1 ((rd_T40 l0 x4_1).f1).length c723_1]] ?_; (with_reducible refine (spec_l2Copy.calls ((rd_T40 l0 x4_1).f0) _ _ ((rd_T40 l0 x4_1).f1) t724 t725 _ ?side1 ?side2 A6.out).mono ?_); (case side1 => exact sc HR723_1); (case side2 => exact HC723_1.out); rintro e w8 ⟨v726, rfl, ho0, hb⟩; refine ⟨_, rfl, ?_⟩; have _ := ra (Kd.S_elder' (by (with_reducible repeat (first | apply Kd.S_alloc | apply Kd.S_drewN | apply Kd.S_drew)); exact HO_3.out) (Kd.R_base ho0) hb); have _ := ra (Kd.R_lower ho0 (below_size bq)); have _ := bs hb; clear HO_3 HB; rename_i HO_3 HO727 HB; (try clear hb); (try clear hb2); (try clear hk); (try clear hi); (try clear ho0); obtain ⟨Ao10, co10, eo10⟩ := Kd.R_slice HO727.out; subst eo10) | ((with_reducible refine gate_builtin (b := .append) (xs := #[.tmp 12, .tmp 18]) rfl ?_); at_builtin; refine Kd.S_append k40 (w0 := w) w.heap.size rfl (.tmp 12) (.tmp 18) 26 40 (.agg #[(.string ⟨#[]⟩), (.slice none 0 0)]) 40 rfl Try.underlying26 info40 rfl (by decide) (by omega) u3 x3_1 (⟨t724, t725⟩ : S40) [.string t724, .slice Ao10 t725.length co10] (fun _ => True) (fun k_ => some k_ = (.slice Ao10 t725.length co10 : Value).ownBlock) rfl rfl ?aP (fun k_ hk_ => ((Kd.R_mono (ok' := fun k_ => ((fun _ => True)) k_ ∧ some k_ ≠ (u3 : Value).ownBlock) (Kd.R_apart' (HO727.out) (Kd.S_typed HO_3.out) (by decide)) (fun k_ hk => ⟨trivial, hk.2⟩))).1 k_ hk_.symm) ?aF ?aO ?aB ?aS ?aL ?_; (case aP => exact k40_mkM _ _ _ (⟨t724, t725⟩ : S40) (Kd.R_mono (Kd.R_tight rfl (Kd.R_mono (ok' := fun k_ => ((fun _ => True)) k_ ∧ some k_ ≠ (u3 : Value).ownBlock) (Kd.R_apart' (HO727.out) (Kd.S_typed HO_3.out) (by decide)) (fun k_ hk => ⟨trivial, hk.2⟩))) (fun _ h_ => h_))); (case aB => exact bq); (case aF => exact (fun _ _ => trivial)); (case aO => exact (by (with_reducible repeat (first | apply Kd.S_alloc | apply Kd.S_drewN | apply Kd.S_drew)); exact Kd.S_mono HO_3.out (fun k_ hk => ⟨trivial, fun e_ => hk.2 e_⟩))); (case aS => exact (below_size bq)); (case aL => have := LMc7.out; omega); intro v729 w9 ho hb hg hat; rw [← Ny728.out] at ho; have _ := ra (hb); have _ := ra (ho); clear HB HO_3 HO727; rename_i HB HO730; clear ho hb hg hat))
      go_roundg k1
      case measure => have := HK1.out; omega
      case rel => exact ⟨(y728), (wrap64 (x4_1 + 1)), rs, H', ⟨by have := HK1.out; omega⟩, ⟨by (with_reducible repeat (first | apply Kd.S_alloc | apply Kd.S_drewN | apply Kd.S_drew)); exact HO730.out⟩, ⟨bq⟩⟩
     ·rw [if_neg c7] at H
      exact absurd H (by simp)
    ·rw [if_neg c5] at H
     exact absurd H (by simp)
   ·rw [if_neg c4] at H
    have c4b0 : decide (x4_1 < (l0.length : Int)) = false := decide_eq_false c4
    clear c4
    obtain rfl := Option.some.inj H
    go_wp2
    go_ret
    exact ⟨_, re, by (with_reducible repeat (first | apply Kd.S_alloc | apply Kd.S_drewN | apply Kd.S_drew)); exact HO_3.out, bq⟩
set_option maxHeartbeats 8000000 in
set_option maxRecDepth 100000 in
theorem spec_l6At.calls (k : Nat) (A0 : Option Addr) (c0 : Nat) (l0 : List (S40)) (a1 : ByteArray) (r : Int) (w : World) (hr0 : Kd.C k40 w A0 l0.length l0) (hc0 : l0.length ≤ c0) (h : spec_l6At.f k l0 a1 = some r) :
  Calls Try.prog 63 #[.slice A0 l0.length c0, .string a1] w fun e w' => e = .returned (.int .i64 r) ∧ Drawn0 w w' := by
 have HR0 := Aside0.mk hr0
 have HC0 := Aside0.mk hc0
 clear hr0 hc0
 have H : (spec_l6At.l0 k l0 a1 0) = some r := h
 clear h
 have H' := Aside0.mk H
 clear H
 go_enter Try.func63, Try.ntmps63
 go_wp2
 go_loopg [5] k (fun kq v5 w' => ∃ (x5_1 : Int), v5 = .int .i64 x5_1 ∧ Aside0 (spec_l6At.l0 kq l0 a1 x5_1 = some r) ∧ Aside0 (kq ≤ k) ∧ Drawn0 w w')
 case atStart => exact ⟨(0), rs, H', ⟨Nat.le_refl _⟩, by repeat (first | exact Drawn0.refl _ | apply Drawn0.step)⟩
 case round =>
  clear H'
  obtain ⟨x5_1, rfl, HA, HK1, ⟨m1, rfl⟩⟩ := hrel
  cases gk with
  | zero => exact absurd HA.out (by simp [spec_l6At.l0])
  | succ k1 =>
   have H := HA.out
   clear HA
   simp only [spec_l6At.l0] at H
   by_cases c3 : x5_1 < (l0.length : Int)
   ·rw [if_pos c3] at H
    have c3b0 : decide (x5_1 < (l0.length : Int)) = true := decide_eq_true c3
    clear c3
    by_cases c4 : 0 ≤ x5_1
    ·rw [if_pos c4] at H
     have c4b0 : decide (0 ≤ x5_1) = true := decide_eq_true c4
     clear c4
     by_cases c5 : ((rd_T40 l0 x5_1).f0).toList = a1.toList
     ·rw [if_pos c5] at H
      have c5b0 : (((rd_T40 l0 x5_1).f0).toList == a1.toList) = true := beq_iff_eq.mpr c5
      have c5b1 : (((rd_T40 l0 x5_1).f0).toList != a1.toList) = false := bne_eq_false_iff_eq.mpr c5
      clear c5
      obtain rfl := Option.some.inj H
      have p731 : 0 ≤ (x5_1 : Int) := od
      have q731 : x5_1 < (l0.length : Int) := od
      obtain ⟨ad731, A731_1, c731_1, e731, hx731_0, hx731_1, hl731_1, hi731_1⟩ := at_T40 HR0.out x5_1 p731 q731
      cases e731
      have HR731_1 := Aside0.mk hi731_1
      have HC731_1 := Aside0.mk hl731_1
      clear hi731_1 hl731_1
      replace p731 := eq_true p731
      replace q731 := eq_true q731
      go_wp2
      go_ret
      exact ⟨by first | rfl | (simp; done) | (simp [*]; done), by repeat (first | exact Drawn0.refl _ | apply Drawn0.step)⟩
     ·rw [if_neg c5] at H
      have c5b0 : (((rd_T40 l0 x5_1).f0).toList == a1.toList) = false := beq_eq_false_iff_ne.mpr c5
      have c5b1 : (((rd_T40 l0 x5_1).f0).toList != a1.toList) = true := bne_iff_ne.mpr c5
      have H' := Aside0.mk H
      clear H
      have p731 : 0 ≤ (x5_1 : Int) := od
      have q731 : x5_1 < (l0.length : Int) := od
      obtain ⟨ad731, A731_1, c731_1, e731, hx731_0, hx731_1, hl731_1, hi731_1⟩ := at_T40 HR0.out x5_1 p731 q731
      cases e731
      have HR731_1 := Aside0.mk hi731_1
      have HC731_1 := Aside0.mk hl731_1
      clear hi731_1 hl731_1
      replace p731 := eq_true p731
      replace q731 := eq_true q731
      go_wp2
      go_roundg k1
      case measure => have := HK1.out; omega
      case rel => exact ⟨(wrap64 (x5_1 + 1)), rs, H', ⟨by have := HK1.out; omega⟩, by repeat (first | exact Drawn0.refl _ | apply Drawn0.step)⟩
    ·rw [if_neg c4] at H
     exact absurd H (by simp)
   ·rw [if_neg c3] at H
    have c3b0 : decide (x5_1 < (l0.length : Int)) = false := decide_eq_false c3
    clear c3
    obtain rfl := Option.some.inj H
    go_wp2
    go_ret
    exact ⟨by first | rfl | (simp; done) | (simp [*]; done), by repeat (first | exact Drawn0.refl _ | apply Drawn0.step)⟩
set_option maxHeartbeats 8000000 in
set_option maxRecDepth 100000 in
theorem spec_ProbeHappen.calls (k : Nat) (P0_ : Nat → Prop) (A0 : Option Addr) (c0 : Nat) (l0 : List (S40)) (a1_0 : Bool) (a1_1 : ByteArray) (P1_2_ : Nat → Prop) (A1_2 : Option Addr) (c1_2 : Nat) (l1_2 : List (S95)) (r1 : List (S40)) (r2 : Int) (w : World) (hs0 : Kd.V k40 40 w w.heap.size (fun k_ => P0_ k_) (.slice A0 l0.length c0) l0) (hs1_2 : Kd.V k95 95 w w.heap.size (fun k_ => P1_2_ k_) (.slice A1_2 l1_2.length c1_2) l1_2) (h : spec_ProbeHappen.f k l0 a1_0 a1_1 l1_2 = some (r1, r2)) :
  Calls Try.prog 31 #[.slice A0 l0.length c0, .agg #[.bool a1_0, .string a1_1, .slice A1_2 l1_2.length c1_2]] w fun e w' => ∃ v0_ : Value, e = .returned (.tuple #[v0_, .int .i64 r2]) ∧ Kd.S k40 40 w' w.heap.size (fun _ => True) v0_ r1 ∧ Below w.heap.size w w' := by
 have hu54 := Try.underlying54
 have hu40 := Try.underlying40
 have HO0 := ra (show Kd.V k40 40 w w.heap.size (fun k_ => ((P0_ k_ ∨ P1_2_ k_) ∨ w.heap.size ≤ k_)) (.slice A0 l0.length c0) l0 from Kd.V_mono hs0 (fun k_ hk => .inl (.inl hk)))
 have HO1_2 := ra (show Kd.V k95 95 w w.heap.size (fun k_ => ((P0_ k_ ∨ P1_2_ k_) ∨ w.heap.size ≤ k_)) (.slice A1_2 l1_2.length c1_2) l1_2 from Kd.V_mono hs1_2 (fun k_ hk => .inl (.inr hk)))
 have HB := ra (Below.refl w.heap.size w)
 have H : ((spec_ProbeSkyOk.f k l0).bind fun t733 => (if t733 = true then (if a1_0 = true then (spec_ProbeHappen.j0 k l0 false a1_0 a1_1 l1_2) else ((spec_ProbeTubeOk.f k a1_1 l1_2).bind fun t737 => (spec_ProbeHappen.j0 k l0 (!t737) a1_0 a1_1 l1_2))) else (some ((([] : List (S40))), 1)))) = some (r1, r2) := h
 clear h
 obtain ⟨t733, A3, H⟩ := bo H
 by_cases c4 : t733 = true
 ·subst c4
  replace H := it H rfl
  have HC5 := Aside0.mk H
  clear H
  go_enter Try.func31, Try.ntmps31
  go_upto_region 3 with (first | ((with_reducible refine gate_dst (N := 3) rfl ?_); (try (refine gate_guard (by rfl) ?_; dsimp only)); refine be 3 #[.bool a1_0, .string a1_1, .slice A1_2 l1_2.length c1_2] 54 ?_; intro gb732 hg w6 hbox hb; have _ := ra (Kd.V_below (Kd.V_elderB (by (with_reducible repeat (first | apply Kd.V_alloc | apply Kd.V_drewN | apply Kd.V_drew)); exact HO0.out) gb732 (Nat.le_of_eq hg.symm)) hb); have _ := ra (Kd.V_below (Kd.V_elderB (by (with_reducible repeat (first | apply Kd.V_alloc | apply Kd.V_drewN | apply Kd.V_drew)); exact HO1_2.out) gb732 (Nat.le_of_eq hg.symm)) hb); have _ := bs hb; have _ := ra (hbox); have _ := bz (w0 := w) hg; have _ := bz (w0 := w) hg; clear HO0 HO1_2 HB; rename_i HO0 HO1_2 HB BK732 GW732 GE732; clear hb hbox hg) | (go_at_call 27; (with_reducible refine (spec_ProbeSkyOk.calls k _ _ l0 true _ ?side1 ?side2 A3.out).mono ?_); (case side1 => repeat (first | exact (Kd.V_reads' HO0.out).2.2 | (with_reducible refine Kd.C_alloc ?_ _) | (with_reducible refine Kd.C_drewN ?_ _) | (with_reducible refine Kd.C_drew ?_))); (case side2 => exact (Kd.V_reads' HO0.out).2.1); rintro e w7 ⟨rfl, hb⟩; have _ := ra (Kd.V_below (by (with_reducible repeat (first | apply Kd.V_alloc | apply Kd.V_drewN | apply Kd.V_drew)); exact HO0.out) hb); have _ := ra (Kd.V_below (by (with_reducible repeat (first | apply Kd.V_alloc | apply Kd.V_drewN | apply Kd.V_drew)); exact HO1_2.out) hb); have _ := bb (bk BK732) hb; have _ := bs hb; clear HO0 HO1_2 BK732 HB; rename_i HO0 HO1_2 BK732 HB; (try clear hb); (try clear hb2); (try clear hk); (try clear hi)))
  repeat (go_quiet (first | ((with_reducible refine gate_dst (N := 3) rfl ?_); (try (refine gate_guard (by rfl) ?_; dsimp only)); refine be 3 #[.bool a1_0, .string a1_1, .slice A1_2 l1_2.length c1_2] 54 ?_; intro gb732 hg w6 hbox hb; have _ := ra (Kd.V_below (Kd.V_elderB (by (with_reducible repeat (first | apply Kd.V_alloc | apply Kd.V_drewN | apply Kd.V_drew)); exact HO0.out) gb732 (Nat.le_of_eq hg.symm)) hb); have _ := ra (Kd.V_below (Kd.V_elderB (by (with_reducible repeat (first | apply Kd.V_alloc | apply Kd.V_drewN | apply Kd.V_drew)); exact HO1_2.out) gb732 (Nat.le_of_eq hg.symm)) hb); have _ := bs hb; have _ := ra (hbox); have _ := bz (w0 := w) hg; have _ := bz (w0 := w) hg; clear HO0 HO1_2 HB; rename_i HO0 HO1_2 HB BK732 GW732 GE732; clear hb hbox hg) | (go_at_call 27; (with_reducible refine (spec_ProbeSkyOk.calls k _ _ l0 true _ ?side1 ?side2 A3.out).mono ?_); (case side1 => repeat (first | exact (Kd.V_reads' HO0.out).2.2 | (with_reducible refine Kd.C_alloc ?_ _) | (with_reducible refine Kd.C_drewN ?_ _) | (with_reducible refine Kd.C_drew ?_))); (case side2 => exact (Kd.V_reads' HO0.out).2.1); rintro e w7 ⟨rfl, hb⟩; have _ := ra (Kd.V_below (by (with_reducible repeat (first | apply Kd.V_alloc | apply Kd.V_drewN | apply Kd.V_drew)); exact HO0.out) hb); have _ := ra (Kd.V_below (by (with_reducible repeat (first | apply Kd.V_alloc | apply Kd.V_drewN | apply Kd.V_drew)); exact HO1_2.out) hb); have _ := bb (bk BK732) hb; have _ := bs hb; clear HO0 HO1_2 BK732 HB; rename_i HO0 HO1_2 BK732 HB; (try clear hb); (try clear hb2); (try clear hk); (try clear hi))); go_upto_region 3 with (first | ((with_reducible refine gate_dst (N := 3) rfl ?_); (try (refine gate_guard (by rfl) ?_; dsimp only)); refine be 3 #[.bool a1_0, .string a1_1, .slice A1_2 l1_2.length c1_2] 54 ?_; intro gb732 hg w6 hbox hb; have _ := ra (Kd.V_below (Kd.V_elderB (by (with_reducible repeat (first | apply Kd.V_alloc | apply Kd.V_drewN | apply Kd.V_drew)); exact HO0.out) gb732 (Nat.le_of_eq hg.symm)) hb); have _ := ra (Kd.V_below (Kd.V_elderB (by (with_reducible repeat (first | apply Kd.V_alloc | apply Kd.V_drewN | apply Kd.V_drew)); exact HO1_2.out) gb732 (Nat.le_of_eq hg.symm)) hb); have _ := bs hb; have _ := ra (hbox); have _ := bz (w0 := w) hg; have _ := bz (w0 := w) hg; clear HO0 HO1_2 HB; rename_i HO0 HO1_2 HB BK732 GW732 GE732; clear hb hbox hg) | (go_at_call 27; (with_reducible refine (spec_ProbeSkyOk.calls k _ _ l0 true _ ?side1 ?side2 A3.out).mono ?_); (case side1 => repeat (first | exact (Kd.V_reads' HO0.out).2.2 | (with_reducible refine Kd.C_alloc ?_ _) | (with_reducible refine Kd.C_drewN ?_ _) | (with_reducible refine Kd.C_drew ?_))); (case side2 => exact (Kd.V_reads' HO0.out).2.1); rintro e w7 ⟨rfl, hb⟩; have _ := ra (Kd.V_below (by (with_reducible repeat (first | apply Kd.V_alloc | apply Kd.V_drewN | apply Kd.V_drew)); exact HO0.out) hb); have _ := ra (Kd.V_below (by (with_reducible repeat (first | apply Kd.V_alloc | apply Kd.V_drewN | apply Kd.V_drew)); exact HO1_2.out) hb); have _ := bb (bk BK732) hb; have _ := bs hb; clear HO0 HO1_2 BK732 HB; rename_i HO0 HO1_2 BK732 HB; (try clear hb); (try clear hb2); (try clear hk); (try clear hi))))
  (try simp only [Act.put, List.setIfInBounds_toArray, List.set_cons_zero, List.set_cons_succ])
  go_cut [22] (fun v22 wc => ∃ (kq : Nat) (x22_4 : Bool), v22 = .bool x22_4 ∧ Aside0 (spec_ProbeHappen.j0 kq l0 x22_4 a1_0 a1_1 l1_2 = some (r1, r2)) ∧ Aside0 (kq ≤ k) ∧ Aside0 (Kd.V k40 40 wc w.heap.size (fun k_ => ((P0_ k_ ∨ P1_2_ k_) ∨ w.heap.size ≤ k_) ∧ k_ ≠ gb732) (.slice A0 l0.length c0) l0) ∧ Aside0 (Kd.V k95 95 wc w.heap.size (fun k_ => ((P0_ k_ ∨ P1_2_ k_) ∨ w.heap.size ≤ k_) ∧ k_ ≠ gb732) (.slice A1_2 l1_2.length c1_2) l1_2) ∧ Aside0 (wc.heap[gb732]? = some (.cells #[.bool a1_0, .string a1_1, (.slice A1_2 l1_2.length c1_2)] 54 (0, 0))) ∧ Aside0 (Below w.heap.size w wc))
  case first =>
   have H := HC5.out
   clear HC5
   by_cases c8 : a1_0 = true
   ·subst c8
    replace H := it H rfl
    have H' := Aside0.mk H
    clear H
    have hcz9_0 : w7.cell? ⟨gb732, 0, none⟩ = some (.bool true) := (blk_cell BK732.out 0).trans rfl
    have hcz9_1 : w7.cell? ⟨gb732, 1, none⟩ = some (.string a1_1) := (blk_cell BK732.out 1).trans rfl
    have hcz9_2 : w7.cell? ⟨gb732, 2, none⟩ = some (.slice A1_2 l1_2.length c1_2) := (blk_cell BK732.out 2).trans rfl
    have hfz9_0 := blk_frozen BK732.out 0
    have hfz9_1 := blk_frozen BK732.out 1
    have hfz9_2 := blk_frozen BK732.out 2
    go_wp2
    repeat (go_quiet (fail); try go_wp2)
    go_meet
    case rel => exact ⟨_, (false), rs, H', ⟨by first | omega | exact Nat.le_refl _⟩, ⟨by (with_reducible repeat (first | apply Kd.V_alloc | apply Kd.V_drewN | apply Kd.V_drew)); exact HO0.out⟩, ⟨by (with_reducible repeat (first | apply Kd.V_alloc | apply Kd.V_drewN | apply Kd.V_drew)); exact HO1_2.out⟩, ⟨bk BK732⟩, ⟨bq⟩⟩
   ·replace c8 := Bool.eq_false_iff.mpr c8
    subst c8
    have H1 : ((spec_ProbeTubeOk.f k a1_1 l1_2).bind fun t737 => (spec_ProbeHappen.j0 k l0 (!t737) false a1_1 l1_2)) = some (r1, r2) := by rw [if_neg (show ¬ (false = true) by decide)] at H; exact H
    clear H
    have H := H1
    clear H1
    obtain ⟨t737, A10, H⟩ := bo H
    have H' := Aside0.mk H
    clear H
    have hcz11_0 : w7.cell? ⟨gb732, 0, none⟩ = some (.bool false) := (blk_cell BK732.out 0).trans rfl
    have hcz11_1 : w7.cell? ⟨gb732, 1, none⟩ = some (.string a1_1) := (blk_cell BK732.out 1).trans rfl
    have hcz11_2 : w7.cell? ⟨gb732, 2, none⟩ = some (.slice A1_2 l1_2.length c1_2) := (blk_cell BK732.out 2).trans rfl
    have hfz11_0 := blk_frozen BK732.out 0
    have hfz11_1 := blk_frozen BK732.out 1
    have hfz11_2 := blk_frozen BK732.out 2
    go_wp2_with (first | (go_at_call 51; (with_reducible refine (spec_ProbeTubeOk.calls k a1_1 _ _ l1_2 t737 _ ?side1 ?side2 A10.out).mono ?_); (case side1 => repeat (first | exact (Kd.V_reads' HO1_2.out).2.2 | (with_reducible refine Kd.C_alloc ?_ _) | (with_reducible refine Kd.C_drewN ?_ _) | (with_reducible refine Kd.C_drew ?_))); (case side2 => exact (Kd.V_reads' HO1_2.out).2.1); rintro e w12 ⟨rfl, hb⟩; have _ := ra (Kd.V_below (by (with_reducible repeat (first | apply Kd.V_alloc | apply Kd.V_drewN | apply Kd.V_drew)); exact HO0.out) hb); have _ := ra (Kd.V_below (by (with_reducible repeat (first | apply Kd.V_alloc | apply Kd.V_drewN | apply Kd.V_drew)); exact HO1_2.out) hb); have _ := bb (bk BK732) hb; have _ := bs hb; clear HO0 HO1_2 BK732 HB; rename_i HO0 HO1_2 BK732 HB; (try clear hb); (try clear hb2); (try clear hk); (try clear hi)))
    repeat (go_quiet (first | (go_at_call 51; (with_reducible refine (spec_ProbeTubeOk.calls k a1_1 _ _ l1_2 t737 _ ?side1 ?side2 A10.out).mono ?_); (case side1 => repeat (first | exact (Kd.V_reads' HO1_2.out).2.2 | (with_reducible refine Kd.C_alloc ?_ _) | (with_reducible refine Kd.C_drewN ?_ _) | (with_reducible refine Kd.C_drew ?_))); (case side2 => exact (Kd.V_reads' HO1_2.out).2.1); rintro e w12 ⟨rfl, hb⟩; have _ := ra (Kd.V_below (by (with_reducible repeat (first | apply Kd.V_alloc | apply Kd.V_drewN | apply Kd.V_drew)); exact HO0.out) hb); have _ := ra (Kd.V_below (by (with_reducible repeat (first | apply Kd.V_alloc | apply Kd.V_drewN | apply Kd.V_drew)); exact HO1_2.out) hb); have _ := bb (bk BK732) hb; have _ := bs hb; clear HO0 HO1_2 BK732 HB; rename_i HO0 HO1_2 BK732 HB; (try clear hb); (try clear hb2); (try clear hk); (try clear hi))); try go_wp2_with (first | (go_at_call 51; (with_reducible refine (spec_ProbeTubeOk.calls k a1_1 _ _ l1_2 t737 _ ?side1 ?side2 A10.out).mono ?_); (case side1 => repeat (first | exact (Kd.V_reads' HO1_2.out).2.2 | (with_reducible refine Kd.C_alloc ?_ _) | (with_reducible refine Kd.C_drewN ?_ _) | (with_reducible refine Kd.C_drew ?_))); (case side2 => exact (Kd.V_reads' HO1_2.out).2.1); rintro e w12 ⟨rfl, hb⟩; have _ := ra (Kd.V_below (by (with_reducible repeat (first | apply Kd.V_alloc | apply Kd.V_drewN | apply Kd.V_drew)); exact HO0.out) hb); have _ := ra (Kd.V_below (by (with_reducible repeat (first | apply Kd.V_alloc | apply Kd.V_drewN | apply Kd.V_drew)); exact HO1_2.out) hb); have _ := bb (bk BK732) hb; have _ := bs hb; clear HO0 HO1_2 BK732 HB; rename_i HO0 HO1_2 BK732 HB; (try clear hb); (try clear hb2); (try clear hk); (try clear hi))))
    go_meet
    case rel => exact ⟨_, (!t737), rs, H', ⟨by first | omega | exact Nat.le_refl _⟩, ⟨by (with_reducible repeat (first | apply Kd.V_alloc | apply Kd.V_drewN | apply Kd.V_drew)); exact HO0.out⟩, ⟨by (with_reducible repeat (first | apply Kd.V_alloc | apply Kd.V_drewN | apply Kd.V_drew)); exact HO1_2.out⟩, ⟨bk BK732⟩, ⟨bq⟩⟩
  case rest =>
   clear HC5
   try clear c4
   try clear c8
   try clear hcz11_0
   try clear hcz11_1
   try clear hcz11_2
   try clear hcz9_0
   try clear hcz9_1
   try clear hcz9_2
   try clear hfz11_0
   try clear hfz11_1
   try clear hfz11_2
   try clear hfz9_0
   try clear hfz9_1
   try clear hfz9_2
   obtain ⟨kq, x22_4, rfl, HA, HJ4, HO_0, HO_733002, BK732, HB⟩ := hcut
   cases kq with
   | zero => exact absurd HA.out (by simp [spec_ProbeHappen.j0])
   | succ kj4 =>
    have H := HA.out
    clear HA
    simp only [spec_ProbeHappen.j0] at H
    by_cases c13 : x22_4 = true
    ·subst c13
     replace H := it H rfl
     obtain ⟨t738, A14, H⟩ := bo H
     simp only [Option.some.injEq, Prod.mk.injEq] at H
     obtain ⟨rfl, rfl⟩ := H
     go_wp2_with (first | (go_at_call 62; (with_reducible refine (spec_l2List.calls kj4 _ _ l0 t738 _ ?side1 ?side2 A14.out).mono ?_); (case side1 => repeat (first | exact (Kd.V_reads' HO_0.out).2.2 | (with_reducible refine Kd.C_alloc ?_ _) | (with_reducible refine Kd.C_drewN ?_ _) | (with_reducible refine Kd.C_drew ?_))); (case side2 => exact (Kd.V_reads' HO_0.out).2.1); rintro e w15 ⟨v739, rfl, ho0, hb⟩; have HS739 := ra (Kd.S_lower ho0 (below_size (by repeat (first | (with_reducible first | exact HB.out | apply below_alloc | apply pw_below_drewN | apply below_drew1 | refine below_set ?_ (Aside0.out (by assumption))) | exact HB.out)))); have _ := ra (Kd.V_elder' (by (with_reducible repeat (first | apply Kd.V_alloc | apply Kd.V_drewN | apply Kd.V_drew)); exact HO_0.out) (Kd.S_base ho0) hb); have _ := ra (Kd.V_elder' (by (with_reducible repeat (first | apply Kd.V_alloc | apply Kd.V_drewN | apply Kd.V_drew)); exact HO_733002.out) (Kd.S_base ho0) hb); have _ := ra (Kd.N_lower (Kd.N_mono (ok' := fun k_ => ((P0_ k_ ∨ P1_2_ k_) ∨ w.heap.size ≤ k_) ∧ k_ ≠ gb732) (Kd.S_N (Kd.S_bound ho0)) (fun k_ hk_ => ⟨(.inr (Nat.le_trans (below_size bq) hk_.2.1)), (Kd.freshB (g := gb732) (o := .cells #[.bool a1_0, .string a1_1, .slice A1_2 l1_2.length c1_2] 54 (0, 0)) (bk BK732) k_ hk_.2.1)⟩)) (below_size bq)); have _ := bb (bk BK732) hb; have _ := bs hb; clear HO_0 HO_733002 BK732 HB; rename_i HO_0 HO_733002 HO740 BK732 HB; (try clear hb); (try clear hb2); (try clear hk); (try clear hi); (try clear ho0)))
     repeat (go_quiet (first | (go_at_call 62; (with_reducible refine (spec_l2List.calls kj4 _ _ l0 t738 _ ?side1 ?side2 A14.out).mono ?_); (case side1 => repeat (first | exact (Kd.V_reads' HO_0.out).2.2 | (with_reducible refine Kd.C_alloc ?_ _) | (with_reducible refine Kd.C_drewN ?_ _) | (with_reducible refine Kd.C_drew ?_))); (case side2 => exact (Kd.V_reads' HO_0.out).2.1); rintro e w15 ⟨v739, rfl, ho0, hb⟩; have HS739 := ra (Kd.S_lower ho0 (below_size (by repeat (first | (with_reducible first | exact HB.out | apply below_alloc | apply pw_below_drewN | apply below_drew1 | refine below_set ?_ (Aside0.out (by assumption))) | exact HB.out)))); have _ := ra (Kd.V_elder' (by (with_reducible repeat (first | apply Kd.V_alloc | apply Kd.V_drewN | apply Kd.V_drew)); exact HO_0.out) (Kd.S_base ho0) hb); have _ := ra (Kd.V_elder' (by (with_reducible repeat (first | apply Kd.V_alloc | apply Kd.V_drewN | apply Kd.V_drew)); exact HO_733002.out) (Kd.S_base ho0) hb); have _ := ra (Kd.N_lower (Kd.N_mono (ok' := fun k_ => ((P0_ k_ ∨ P1_2_ k_) ∨ w.heap.size ≤ k_) ∧ k_ ≠ gb732) (Kd.S_N (Kd.S_bound ho0)) (fun k_ hk_ => ⟨(.inr (Nat.le_trans (below_size bq) hk_.2.1)), (Kd.freshB (g := gb732) (o := .cells #[.bool a1_0, .string a1_1, .slice A1_2 l1_2.length c1_2] 54 (0, 0)) (bk BK732) k_ hk_.2.1)⟩)) (below_size bq)); have _ := bb (bk BK732) hb; have _ := bs hb; clear HO_0 HO_733002 BK732 HB; rename_i HO_0 HO_733002 HO740 BK732 HB; (try clear hb); (try clear hb2); (try clear hk); (try clear hi); (try clear ho0))); try go_wp2_with (first | (go_at_call 62; (with_reducible refine (spec_l2List.calls kj4 _ _ l0 t738 _ ?side1 ?side2 A14.out).mono ?_); (case side1 => repeat (first | exact (Kd.V_reads' HO_0.out).2.2 | (with_reducible refine Kd.C_alloc ?_ _) | (with_reducible refine Kd.C_drewN ?_ _) | (with_reducible refine Kd.C_drew ?_))); (case side2 => exact (Kd.V_reads' HO_0.out).2.1); rintro e w15 ⟨v739, rfl, ho0, hb⟩; have HS739 := ra (Kd.S_lower ho0 (below_size (by repeat (first | (with_reducible first | exact HB.out | apply below_alloc | apply pw_below_drewN | apply below_drew1 | refine below_set ?_ (Aside0.out (by assumption))) | exact HB.out)))); have _ := ra (Kd.V_elder' (by (with_reducible repeat (first | apply Kd.V_alloc | apply Kd.V_drewN | apply Kd.V_drew)); exact HO_0.out) (Kd.S_base ho0) hb); have _ := ra (Kd.V_elder' (by (with_reducible repeat (first | apply Kd.V_alloc | apply Kd.V_drewN | apply Kd.V_drew)); exact HO_733002.out) (Kd.S_base ho0) hb); have _ := ra (Kd.N_lower (Kd.N_mono (ok' := fun k_ => ((P0_ k_ ∨ P1_2_ k_) ∨ w.heap.size ≤ k_) ∧ k_ ≠ gb732) (Kd.S_N (Kd.S_bound ho0)) (fun k_ hk_ => ⟨(.inr (Nat.le_trans (below_size bq) hk_.2.1)), (Kd.freshB (g := gb732) (o := .cells #[.bool a1_0, .string a1_1, .slice A1_2 l1_2.length c1_2] 54 (0, 0)) (bk BK732) k_ hk_.2.1)⟩)) (below_size bq)); have _ := bb (bk BK732) hb; have _ := bs hb; clear HO_0 HO_733002 BK732 HB; rename_i HO_0 HO_733002 HO740 BK732 HB; (try clear hb); (try clear hb2); (try clear hk); (try clear hi); (try clear ho0))))
     go_ret2
     exact ⟨_, re, by (with_reducible repeat (first | apply Kd.S_alloc | apply Kd.S_drewN | apply Kd.S_drew)); exact HS739.out, bq⟩
    ·replace c13 := Bool.eq_false_iff.mpr c13
     subst c13
     have H1 : ((spec_l6At.f kj4 l0 a1_1).bind fun t741 => (if a1_0 = true then (spec_ProbeHappen.j1 kj4 l0 t741 (decide (t741 < 0)) a1_0 a1_1 l1_2) else (spec_ProbeHappen.j1 kj4 l0 t741 false a1_0 a1_1 l1_2))) = some (r1, r2) := by rw [if_neg (show ¬ (false = true) by decide)] at H; exact H
     clear H
     have H := H1
     clear H1
     obtain ⟨t741, A16, H⟩ := bo H
     have HC17 := Aside0.mk H
     clear H
     have hcz18_0 : wc.cell? ⟨gb732, 0, none⟩ = some (.bool a1_0) := (blk_cell BK732.out 0).trans rfl
     have hcz18_1 : wc.cell? ⟨gb732, 1, none⟩ = some (.string a1_1) := (blk_cell BK732.out 1).trans rfl
     have hcz18_2 : wc.cell? ⟨gb732, 2, none⟩ = some (.slice A1_2 l1_2.length c1_2) := (blk_cell BK732.out 2).trans rfl
     have hfz18_0 := blk_frozen BK732.out 0
     have hfz18_1 := blk_frozen BK732.out 1
     have hfz18_2 := blk_frozen BK732.out 2
     go_upto_region 6 with (first | (go_at_call 63; (with_reducible refine (spec_l6At.calls kj4 _ _ l0 a1_1 t741 _ ?side1 ?side2 A16.out).mono ?_); (case side1 => repeat (first | exact (Kd.V_reads' HO_0.out).2.2 | (with_reducible refine Kd.C_alloc ?_ _) | (with_reducible refine Kd.C_drewN ?_ _) | (with_reducible refine Kd.C_drew ?_))); (case side2 => exact (Kd.V_reads' HO_0.out).2.1); rintro e w' ⟨rfl, ⟨nd, rfl⟩⟩; (try first | exact ⟨rfl, _, World.drewN_drewN _ _ _⟩ | exact ⟨rfl, _, Eq.trans (World.drewN_drewN _ _ _) (congrArg (World.drewN _) (Nat.add_assoc _ _ _))⟩)))
     repeat (go_quiet (first | (go_at_call 63; (with_reducible refine (spec_l6At.calls kj4 _ _ l0 a1_1 t741 _ ?side1 ?side2 A16.out).mono ?_); (case side1 => repeat (first | exact (Kd.V_reads' HO_0.out).2.2 | (with_reducible refine Kd.C_alloc ?_ _) | (with_reducible refine Kd.C_drewN ?_ _) | (with_reducible refine Kd.C_drew ?_))); (case side2 => exact (Kd.V_reads' HO_0.out).2.1); rintro e w' ⟨rfl, ⟨nd, rfl⟩⟩; (try first | exact ⟨rfl, _, World.drewN_drewN _ _ _⟩ | exact ⟨rfl, _, Eq.trans (World.drewN_drewN _ _ _) (congrArg (World.drewN _) (Nat.add_assoc _ _ _))⟩))); go_upto_region 6 with (first | (go_at_call 63; (with_reducible refine (spec_l6At.calls kj4 _ _ l0 a1_1 t741 _ ?side1 ?side2 A16.out).mono ?_); (case side1 => repeat (first | exact (Kd.V_reads' HO_0.out).2.2 | (with_reducible refine Kd.C_alloc ?_ _) | (with_reducible refine Kd.C_drewN ?_ _) | (with_reducible refine Kd.C_drew ?_))); (case side2 => exact (Kd.V_reads' HO_0.out).2.1); rintro e w' ⟨rfl, ⟨nd, rfl⟩⟩; (try first | exact ⟨rfl, _, World.drewN_drewN _ _ _⟩ | exact ⟨rfl, _, Eq.trans (World.drewN_drewN _ _ _) (congrArg (World.drewN _) (Nat.add_assoc _ _ _))⟩))))
     (try simp only [Act.put, List.setIfInBounds_toArray, List.set_cons_zero, List.set_cons_succ])
     go_cut [35] (fun v35 wc => ∃ (kq : Nat) (x35_16 : Bool), v35 = .bool x35_16 ∧ Aside0 (spec_ProbeHappen.j1 kq l0 t741 x35_16 a1_0 a1_1 l1_2 = some (r1, r2)) ∧ Aside0 (kq ≤ kj4) ∧ Aside0 (Kd.V k40 40 wc w.heap.size (fun k_ => ((P0_ k_ ∨ P1_2_ k_) ∨ w.heap.size ≤ k_) ∧ k_ ≠ gb732) (.slice A0 l0.length c0) l0) ∧ Aside0 (Kd.V k95 95 wc w.heap.size (fun k_ => ((P0_ k_ ∨ P1_2_ k_) ∨ w.heap.size ≤ k_) ∧ k_ ≠ gb732) (.slice A1_2 l1_2.length c1_2) l1_2) ∧ Aside0 (wc.heap[gb732]? = some (.cells #[.bool a1_0, .string a1_1, (.slice A1_2 l1_2.length c1_2)] 54 (0, 0))) ∧ Aside0 (Below w.heap.size w wc))
     case first =>
      have H := HC17.out
      clear HC17
      by_cases c19 : a1_0 = true
      ·subst c19
       replace H := it H rfl
       have H' := Aside0.mk H
       clear H
       have hcz20_0 : wc.cell? ⟨gb732, 0, none⟩ = some (.bool true) := (blk_cell BK732.out 0).trans rfl
       have hcz20_1 : wc.cell? ⟨gb732, 1, none⟩ = some (.string a1_1) := (blk_cell BK732.out 1).trans rfl
       have hcz20_2 : wc.cell? ⟨gb732, 2, none⟩ = some (.slice A1_2 l1_2.length c1_2) := (blk_cell BK732.out 2).trans rfl
       have hfz20_0 := blk_frozen BK732.out 0
       have hfz20_1 := blk_frozen BK732.out 1
       have hfz20_2 := blk_frozen BK732.out 2
       go_wp2
       repeat (go_quiet (fail); try go_wp2)
       go_meet
       case rel => exact ⟨_, (decide (t741 < 0)), rs, H', ⟨by have := HJ4.out; first | omega | exact Nat.le_refl _⟩, ⟨by (with_reducible repeat (first | apply Kd.V_alloc | apply Kd.V_drewN | apply Kd.V_drew)); exact HO_0.out⟩, ⟨by (with_reducible repeat (first | apply Kd.V_alloc | apply Kd.V_drewN | apply Kd.V_drew)); exact HO_733002.out⟩, ⟨bk BK732⟩, ⟨bq⟩⟩
      ·replace c19 := Bool.eq_false_iff.mpr c19
       subst c19
       have H1 : (spec_ProbeHappen.j1 kj4 l0 t741 false false a1_1 l1_2) = some (r1, r2) := by rw [if_neg (show ¬ (false = true) by decide)] at H; exact H
       clear H
       have H := H1
       clear H1
       have H' := Aside0.mk H
       clear H
       have hcz21_0 : wc.cell? ⟨gb732, 0, none⟩ = some (.bool false) := (blk_cell BK732.out 0).trans rfl
       have hcz21_1 : wc.cell? ⟨gb732, 1, none⟩ = some (.string a1_1) := (blk_cell BK732.out 1).trans rfl
       have hcz21_2 : wc.cell? ⟨gb732, 2, none⟩ = some (.slice A1_2 l1_2.length c1_2) := (blk_cell BK732.out 2).trans rfl
       have hfz21_0 := blk_frozen BK732.out 0
       have hfz21_1 := blk_frozen BK732.out 1
       have hfz21_2 := blk_frozen BK732.out 2
       go_wp2
       repeat (go_quiet (fail); try go_wp2)
       go_meet
       case rel => exact ⟨_, (false), rs, H', ⟨by have := HJ4.out; first | omega | exact Nat.le_refl _⟩, ⟨by (with_reducible repeat (first | apply Kd.V_alloc | apply Kd.V_drewN | apply Kd.V_drew)); exact HO_0.out⟩, ⟨by (with_reducible repeat (first | apply Kd.V_alloc | apply Kd.V_drewN | apply Kd.V_drew)); exact HO_733002.out⟩, ⟨bk BK732⟩, ⟨bq⟩⟩
     case rest =>
      clear HC17
      try clear c4
      try clear c8
      try clear c13
      try clear c19
      try clear hcz11_0
      try clear hcz11_1
      try clear hcz11_2
      try clear hcz18_0
      try clear hcz18_1
      try clear hcz18_2
      try clear hcz20_0
      try clear hcz20_1
      try clear hcz20_2
      try clear hcz21_0
      try clear hcz21_1
      try clear hcz21_2
      try clear hcz9_0
      try clear hcz9_1
      try clear hcz9_2
      try clear hfz11_0
      try clear hfz11_1
      try clear hfz11_2
      try clear hfz18_0
      try clear hfz18_1
      try clear hfz18_2
      try clear hfz20_0
      try clear hfz20_1
      try clear hfz20_2
      try clear hfz21_0
      try clear hfz21_1
      try clear hfz21_2
      try clear hfz9_0
      try clear hfz9_1
      try clear hfz9_2
      obtain ⟨kq, x35_16, rfl, HA, HJ16, HO_0, HO_733002, BK732, HB⟩ := hcut
      cases kq with
      | zero => exact absurd HA.out (by simp [spec_ProbeHappen.j1])
      | succ kj16 =>
       have H := HA.out
       clear HA
       simp only [spec_ProbeHappen.j1] at H
       by_cases c22 : x35_16 = true
       ·subst c22
        replace H := it H rfl
        obtain ⟨t742, A23, H⟩ := bo H
        simp only [Option.some.injEq, Prod.mk.injEq] at H
        obtain ⟨rfl, rfl⟩ := H
        go_wp2_with (first | (go_at_call 62; (with_reducible refine (spec_l2List.calls kj16 _ _ l0 t742 _ ?side1 ?side2 A23.out).mono ?_); (case side1 => repeat (first | exact (Kd.V_reads' HO_0.out).2.2 | (with_reducible refine Kd.C_alloc ?_ _) | (with_reducible refine Kd.C_drewN ?_ _) | (with_reducible refine Kd.C_drew ?_))); (case side2 => exact (Kd.V_reads' HO_0.out).2.1); rintro e w24 ⟨v743, rfl, ho0, hb⟩; have HS743 := ra (Kd.S_lower ho0 (below_size (by repeat (first | (with_reducible first | exact HB.out | apply below_alloc | apply pw_below_drewN | apply below_drew1 | refine below_set ?_ (Aside0.out (by assumption))) | exact HB.out)))); have _ := ra (Kd.V_elder' (by (with_reducible repeat (first | apply Kd.V_alloc | apply Kd.V_drewN | apply Kd.V_drew)); exact HO_0.out) (Kd.S_base ho0) hb); have _ := ra (Kd.V_elder' (by (with_reducible repeat (first | apply Kd.V_alloc | apply Kd.V_drewN | apply Kd.V_drew)); exact HO_733002.out) (Kd.S_base ho0) hb); have _ := ra (Kd.N_lower (Kd.N_mono (ok' := fun k_ => ((P0_ k_ ∨ P1_2_ k_) ∨ w.heap.size ≤ k_) ∧ k_ ≠ gb732) (Kd.S_N (Kd.S_bound ho0)) (fun k_ hk_ => ⟨(.inr (Nat.le_trans (below_size bq) hk_.2.1)), (Kd.freshB (g := gb732) (o := .cells #[.bool a1_0, .string a1_1, .slice A1_2 l1_2.length c1_2] 54 (0, 0)) (bk BK732) k_ hk_.2.1)⟩)) (below_size bq)); have _ := bb (bk BK732) hb; have _ := bs hb; clear HO_0 HO_733002 BK732 HB; rename_i HO_0 HO_733002 HO744 BK732 HB; (try clear hb); (try clear hb2); (try clear hk); (try clear hi); (try clear ho0)))
        repeat (go_quiet (first | (go_at_call 62; (with_reducible refine (spec_l2List.calls kj16 _ _ l0 t742 _ ?side1 ?side2 A23.out).mono ?_); (case side1 => repeat (first | exact (Kd.V_reads' HO_0.out).2.2 | (with_reducible refine Kd.C_alloc ?_ _) | (with_reducible refine Kd.C_drewN ?_ _) | (with_reducible refine Kd.C_drew ?_))); (case side2 => exact (Kd.V_reads' HO_0.out).2.1); rintro e w24 ⟨v743, rfl, ho0, hb⟩; have HS743 := ra (Kd.S_lower ho0 (below_size (by repeat (first | (with_reducible first | exact HB.out | apply below_alloc | apply pw_below_drewN | apply below_drew1 | refine below_set ?_ (Aside0.out (by assumption))) | exact HB.out)))); have _ := ra (Kd.V_elder' (by (with_reducible repeat (first | apply Kd.V_alloc | apply Kd.V_drewN | apply Kd.V_drew)); exact HO_0.out) (Kd.S_base ho0) hb); have _ := ra (Kd.V_elder' (by (with_reducible repeat (first | apply Kd.V_alloc | apply Kd.V_drewN | apply Kd.V_drew)); exact HO_733002.out) (Kd.S_base ho0) hb); have _ := ra (Kd.N_lower (Kd.N_mono (ok' := fun k_ => ((P0_ k_ ∨ P1_2_ k_) ∨ w.heap.size ≤ k_) ∧ k_ ≠ gb732) (Kd.S_N (Kd.S_bound ho0)) (fun k_ hk_ => ⟨(.inr (Nat.le_trans (below_size bq) hk_.2.1)), (Kd.freshB (g := gb732) (o := .cells #[.bool a1_0, .string a1_1, .slice A1_2 l1_2.length c1_2] 54 (0, 0)) (bk BK732) k_ hk_.2.1)⟩)) (below_size bq)); have _ := bb (bk BK732) hb; have _ := bs hb; clear HO_0 HO_733002 BK732 HB; rename_i HO_0 HO_733002 HO744 BK732 HB; (try clear hb); (try clear hb2); (try clear hk); (try clear hi); (try clear ho0))); try go_wp2_with (first | (go_at_call 62; (with_reducible refine (spec_l2List.calls kj16 _ _ l0 t742 _ ?side1 ?side2 A23.out).mono ?_); (case side1 => repeat (first | exact (Kd.V_reads' HO_0.out).2.2 | (with_reducible refine Kd.C_alloc ?_ _) | (with_reducible refine Kd.C_drewN ?_ _) | (with_reducible refine Kd.C_drew ?_))); (case side2 => exact (Kd.V_reads' HO_0.out).2.1); rintro e w24 ⟨v743, rfl, ho0, hb⟩; have HS743 := ra (Kd.S_lower ho0 (below_size (by repeat (first | (with_reducible first | exact HB.out | apply below_alloc | apply pw_below_drewN | apply below_drew1 | refine below_set ?_ (Aside0.out (by assumption))) | exact HB.out)))); have _ := ra (Kd.V_elder' (by (with_reducible repeat (first | apply Kd.V_alloc | apply Kd.V_drewN | apply Kd.V_drew)); exact HO_0.out) (Kd.S_base ho0) hb); have _ := ra (Kd.V_elder' (by (with_reducible repeat (first | apply Kd.V_alloc | apply Kd.V_drewN | apply Kd.V_drew)); exact HO_733002.out) (Kd.S_base ho0) hb); have _ := ra (Kd.N_lower (Kd.N_mono (ok' := fun k_ => ((P0_ k_ ∨ P1_2_ k_) ∨ w.heap.size ≤ k_) ∧ k_ ≠ gb732) (Kd.S_N (Kd.S_bound ho0)) (fun k_ hk_ => ⟨(.inr (Nat.le_trans (below_size bq) hk_.2.1)), (Kd.freshB (g := gb732) (o := .cells #[.bool a1_0, .string a1_1, .slice A1_2 l1_2.length c1_2] 54 (0, 0)) (bk BK732) k_ hk_.2.1)⟩)) (below_size bq)); have _ := bb (bk BK732) hb; have _ := bs hb; clear HO_0 HO_733002 BK732 HB; rename_i HO_0 HO_733002 HO744 BK732 HB; (try clear hb); (try clear hb2); (try clear hk); (try clear hi); (try clear ho0))))
        go_ret2
        exact ⟨_, re, by (with_reducible repeat (first | apply Kd.S_alloc | apply Kd.S_drewN | apply Kd.S_drew)); exact HS743.out, bq⟩
       ·replace c22 := Bool.eq_false_iff.mpr c22
        subst c22
        have H1 : (if a1_0 = true then (spec_ProbeHappen.j2 kj16 l0 t741 false a1_0 a1_1 l1_2) else (if t741 < 0 then (spec_ProbeHappen.j2 kj16 l0 t741 (decide ((l0.length : Int) ≥ 24)) a1_0 a1_1 l1_2) else (spec_ProbeHappen.j2 kj16 l0 t741 false a1_0 a1_1 l1_2))) = some (r1, r2) := by rw [if_neg (show ¬ (false = true) by decide)] at H; exact H
        clear H
        have H := H1
        clear H1
        have HC25 := Aside0.mk H
        clear H
        go_upto_region 8 with (fail)
        repeat (go_quiet (fail); go_upto_region 8 with (fail))
        go_cut [49] (fun v49 wc => ∃ (kq : Nat) (x49_24 : Bool), v49 = .bool x49_24 ∧ Aside0 (spec_ProbeHappen.j2 kq l0 t741 x49_24 a1_0 a1_1 l1_2 = some (r1, r2)) ∧ Aside0 (kq ≤ kj16) ∧ Aside0 (Kd.V k40 40 wc w.heap.size (fun k_ => ((P0_ k_ ∨ P1_2_ k_) ∨ w.heap.size ≤ k_) ∧ k_ ≠ gb732) (.slice A0 l0.length c0) l0) ∧ Aside0 (Kd.V k95 95 wc w.heap.size (fun k_ => ((P0_ k_ ∨ P1_2_ k_) ∨ w.heap.size ≤ k_) ∧ k_ ≠ gb732) (.slice A1_2 l1_2.length c1_2) l1_2) ∧ Aside0 (wc.heap[gb732]? = some (.cells #[.bool a1_0, .string a1_1, (.slice A1_2 l1_2.length c1_2)] 54 (0, 0))) ∧ Aside0 (Below w.heap.size w wc))
        case first =>
         have H := HC25.out
         clear HC25
         by_cases c26 : a1_0 = true
         ·subst c26
          replace H := it H rfl
          have H' := Aside0.mk H
          clear H
          have hcz27_0 : wc.cell? ⟨gb732, 0, none⟩ = some (.bool true) := (blk_cell BK732.out 0).trans rfl
          have hcz27_1 : wc.cell? ⟨gb732, 1, none⟩ = some (.string a1_1) := (blk_cell BK732.out 1).trans rfl
          have hcz27_2 : wc.cell? ⟨gb732, 2, none⟩ = some (.slice A1_2 l1_2.length c1_2) := (blk_cell BK732.out 2).trans rfl
          have hfz27_0 := blk_frozen BK732.out 0
          have hfz27_1 := blk_frozen BK732.out 1
          have hfz27_2 := blk_frozen BK732.out 2
          go_wp2
          repeat (go_quiet (fail); try go_wp2)
          go_meet
          case rel => exact ⟨_, (false), rs, H', ⟨by have := HJ4.out; have := HJ16.out; first | omega | exact Nat.le_refl _⟩, ⟨by (with_reducible repeat (first | apply Kd.V_alloc | apply Kd.V_drewN | apply Kd.V_drew)); exact HO_0.out⟩, ⟨by (with_reducible repeat (first | apply Kd.V_alloc | apply Kd.V_drewN | apply Kd.V_drew)); exact HO_733002.out⟩, ⟨bk BK732⟩, ⟨bq⟩⟩
         ·replace c26 := Bool.eq_false_iff.mpr c26
          subst c26
          have H1 : (if t741 < 0 then (spec_ProbeHappen.j2 kj16 l0 t741 (decide ((l0.length : Int) ≥ 24)) false a1_1 l1_2) else (spec_ProbeHappen.j2 kj16 l0 t741 false false a1_1 l1_2)) = some (r1, r2) := by rw [if_neg (show ¬ (false = true) by decide)] at H; exact H
          clear H
          have H := H1
          clear H1
          by_cases c28 : t741 < 0
          ·rw [if_pos c28] at H
           have c28b0 : decide (t741 < 0) = true := decide_eq_true c28
           clear c28
           (first | rw [c28b0] | (simp only [i64_w, i32_w]; rw [c28b0]) | skip)
           have H' := Aside0.mk H
           clear H
           have hcz29_0 : wc.cell? ⟨gb732, 0, none⟩ = some (.bool false) := (blk_cell BK732.out 0).trans rfl
           have hcz29_1 : wc.cell? ⟨gb732, 1, none⟩ = some (.string a1_1) := (blk_cell BK732.out 1).trans rfl
           have hcz29_2 : wc.cell? ⟨gb732, 2, none⟩ = some (.slice A1_2 l1_2.length c1_2) := (blk_cell BK732.out 2).trans rfl
           have hfz29_0 := blk_frozen BK732.out 0
           have hfz29_1 := blk_frozen BK732.out 1
           have hfz29_2 := blk_frozen BK732.out 2
           go_wp2
           repeat (go_quiet (fail); try go_wp2)
           go_meet
           case rel => exact ⟨_, (decide ((l0.length : Int) ≥ 24)), rs, H', ⟨by have := HJ4.out; have := HJ16.out; first | omega | exact Nat.le_refl _⟩, ⟨by (with_reducible repeat (first | apply Kd.V_alloc | apply Kd.V_drewN | apply Kd.V_drew)); exact HO_0.out⟩, ⟨by (with_reducible repeat (first | apply Kd.V_alloc | apply Kd.V_drewN | apply Kd.V_drew)); exact HO_733002.out⟩, ⟨bk BK732⟩, ⟨bq⟩⟩
          ·rw [if_neg c28] at H
           have c28b0 : decide (t741 < 0) = false := decide_eq_false c28
           clear c28
           (first | rw [c28b0] | (simp only [i64_w, i32_w]; rw [c28b0]) | skip)
           have H' := Aside0.mk H
           clear H
           have hcz30_0 : wc.cell? ⟨gb732, 0, none⟩ = some (.bool false) := (blk_cell BK732.out 0).trans rfl
           have hcz30_1 : wc.cell? ⟨gb732, 1, none⟩ = some (.string a1_1) := (blk_cell BK732.out 1).trans rfl
           have hcz30_2 : wc.cell? ⟨gb732, 2, none⟩ = some (.slice A1_2 l1_2.length c1_2) := (blk_cell BK732.out 2).trans rfl
           have hfz30_0 := blk_frozen BK732.out 0
           have hfz30_1 := blk_frozen BK732.out 1
           have hfz30_2 := blk_frozen BK732.out 2
           go_wp2
           repeat (go_quiet (fail); try go_wp2)
           go_meet
           case rel => exact ⟨_, (false), rs, H', ⟨by have := HJ4.out; have := HJ16.out; first | omega | exact Nat.le_refl _⟩, ⟨by (with_reducible repeat (first | apply Kd.V_alloc | apply Kd.V_drewN | apply Kd.V_drew)); exact HO_0.out⟩, ⟨by (with_reducible repeat (first | apply Kd.V_alloc | apply Kd.V_drewN | apply Kd.V_drew)); exact HO_733002.out⟩, ⟨bk BK732⟩, ⟨bq⟩⟩
        case rest =>
         clear HC25
         try clear c4
         try clear c8
         try clear c13
         try clear c19
         try clear c22
         try clear c26
         try clear c28
         try clear c28b0
         try clear hcz11_0
         try clear hcz11_1
         try clear hcz11_2
         try clear hcz18_0
         try clear hcz18_1
         try clear hcz18_2
         try clear hcz20_0
         try clear hcz20_1
         try clear hcz20_2
         try clear hcz21_0
         try clear hcz21_1
         try clear hcz21_2
         try clear hcz27_0
         try clear hcz27_1
         try clear hcz27_2
         try clear hcz29_0
         try clear hcz29_1
         try clear hcz29_2
         try clear hcz30_0
         try clear hcz30_1
         try clear hcz30_2
         try clear hcz9_0
         try clear hcz9_1
         try clear hcz9_2
         try clear hfz11_0
         try clear hfz11_1
         try clear hfz11_2
         try clear hfz18_0
         try clear hfz18_1
         try clear hfz18_2
         try clear hfz20_0
         try clear hfz20_1
         try clear hfz20_2
         try clear hfz21_0
         try clear hfz21_1
         try clear hfz21_2
         try clear hfz27_0
         try clear hfz27_1
         try clear hfz27_2
         try clear hfz29_0
         try clear hfz29_1
         try clear hfz29_2
         try clear hfz30_0
         try clear hfz30_1
         try clear hfz30_2
         try clear hfz9_0
         try clear hfz9_1
         try clear hfz9_2
         obtain ⟨kq, x49_24, rfl, HA, HJ24, HO_0, HO_733002, BK732, HB⟩ := hcut
         cases kq with
         | zero => exact absurd HA.out (by simp [spec_ProbeHappen.j2])
         | succ kj24 =>
          have H := HA.out
          clear HA
          simp only [spec_ProbeHappen.j2] at H
          by_cases c31 : x49_24 = true
          ·subst c31
           replace H := it H rfl
           obtain ⟨t745, A32, H⟩ := bo H
           simp only [Option.some.injEq, Prod.mk.injEq] at H
           obtain ⟨rfl, rfl⟩ := H
           go_wp2_with (first | (go_at_call 62; (with_reducible refine (spec_l2List.calls kj24 _ _ l0 t745 _ ?side1 ?side2 A32.out).mono ?_); (case side1 => repeat (first | exact (Kd.V_reads' HO_0.out).2.2 | (with_reducible refine Kd.C_alloc ?_ _) | (with_reducible refine Kd.C_drewN ?_ _) | (with_reducible refine Kd.C_drew ?_))); (case side2 => exact (Kd.V_reads' HO_0.out).2.1); rintro e w33 ⟨v746, rfl, ho0, hb⟩; have HS746 := ra (Kd.S_lower ho0 (below_size (by repeat (first | (with_reducible first | exact HB.out | apply below_alloc | apply pw_below_drewN | apply below_drew1 | refine below_set ?_ (Aside0.out (by assumption))) | exact HB.out)))); have _ := ra (Kd.V_elder' (by (with_reducible repeat (first | apply Kd.V_alloc | apply Kd.V_drewN | apply Kd.V_drew)); exact HO_0.out) (Kd.S_base ho0) hb); have _ := ra (Kd.V_elder' (by (with_reducible repeat (first | apply Kd.V_alloc | apply Kd.V_drewN | apply Kd.V_drew)); exact HO_733002.out) (Kd.S_base ho0) hb); have _ := ra (Kd.N_lower (Kd.N_mono (ok' := fun k_ => ((P0_ k_ ∨ P1_2_ k_) ∨ w.heap.size ≤ k_) ∧ k_ ≠ gb732) (Kd.S_N (Kd.S_bound ho0)) (fun k_ hk_ => ⟨(.inr (Nat.le_trans (below_size bq) hk_.2.1)), (Kd.freshB (g := gb732) (o := .cells #[.bool a1_0, .string a1_1, .slice A1_2 l1_2.length c1_2] 54 (0, 0)) (bk BK732) k_ hk_.2.1)⟩)) (below_size bq)); have _ := bb (bk BK732) hb; have _ := bs hb; clear HO_0 HO_733002 BK732 HB; rename_i HO_0 HO_733002 HO747 BK732 HB; (try clear hb); (try clear hb2); (try clear hk); (try clear hi); (try clear ho0)))
           repeat (go_quiet (first | (go_at_call 62; (with_reducible refine (spec_l2List.calls kj24 _ _ l0 t745 _ ?side1 ?side2 A32.out).mono ?_); (case side1 => repeat (first | exact (Kd.V_reads' HO_0.out).2.2 | (with_reducible refine Kd.C_alloc ?_ _) | (with_reducible refine Kd.C_drewN ?_ _) | (with_reducible refine Kd.C_drew ?_))); (case side2 => exact (Kd.V_reads' HO_0.out).2.1); rintro e w33 ⟨v746, rfl, ho0, hb⟩; have HS746 := ra (Kd.S_lower ho0 (below_size (by repeat (first | (with_reducible first | exact HB.out | apply below_alloc | apply pw_below_drewN | apply below_drew1 | refine below_set ?_ (Aside0.out (by assumption))) | exact HB.out)))); have _ := ra (Kd.V_elder' (by (with_reducible repeat (first | apply Kd.V_alloc | apply Kd.V_drewN | apply Kd.V_drew)); exact HO_0.out) (Kd.S_base ho0) hb); have _ := ra (Kd.V_elder' (by (with_reducible repeat (first | apply Kd.V_alloc | apply Kd.V_drewN | apply Kd.V_drew)); exact HO_733002.out) (Kd.S_base ho0) hb); have _ := ra (Kd.N_lower (Kd.N_mono (ok' := fun k_ => ((P0_ k_ ∨ P1_2_ k_) ∨ w.heap.size ≤ k_) ∧ k_ ≠ gb732) (Kd.S_N (Kd.S_bound ho0)) (fun k_ hk_ => ⟨(.inr (Nat.le_trans (below_size bq) hk_.2.1)), (Kd.freshB (g := gb732) (o := .cells #[.bool a1_0, .string a1_1, .slice A1_2 l1_2.length c1_2] 54 (0, 0)) (bk BK732) k_ hk_.2.1)⟩)) (below_size bq)); have _ := bb (bk BK732) hb; have _ := bs hb; clear HO_0 HO_733002 BK732 HB; rename_i HO_0 HO_733002 HO747 BK732 HB; (try clear hb); (try clear hb2); (try clear hk); (try clear hi); (try clear ho0))); try go_wp2_with (first | (go_at_call 62; (with_reducible refine (spec_l2List.calls kj24 _ _ l0 t745 _ ?side1 ?side2 A32.out).mono ?_); (case side1 => repeat (first | exact (Kd.V_reads' HO_0.out).2.2 | (with_reducible refine Kd.C_alloc ?_ _) | (with_reducible refine Kd.C_drewN ?_ _) | (with_reducible refine Kd.C_drew ?_))); (case side2 => exact (Kd.V_reads' HO_0.out).2.1); rintro e w33 ⟨v746, rfl, ho0, hb⟩; have HS746 := ra (Kd.S_lower ho0 (below_size (by repeat (first | (with_reducible first | exact HB.out | apply below_alloc | apply pw_below_drewN | apply below_drew1 | refine below_set ?_ (Aside0.out (by assumption))) | exact HB.out)))); have _ := ra (Kd.V_elder' (by (with_reducible repeat (first | apply Kd.V_alloc | apply Kd.V_drewN | apply Kd.V_drew)); exact HO_0.out) (Kd.S_base ho0) hb); have _ := ra (Kd.V_elder' (by (with_reducible repeat (first | apply Kd.V_alloc | apply Kd.V_drewN | apply Kd.V_drew)); exact HO_733002.out) (Kd.S_base ho0) hb); have _ := ra (Kd.N_lower (Kd.N_mono (ok' := fun k_ => ((P0_ k_ ∨ P1_2_ k_) ∨ w.heap.size ≤ k_) ∧ k_ ≠ gb732) (Kd.S_N (Kd.S_bound ho0)) (fun k_ hk_ => ⟨(.inr (Nat.le_trans (below_size bq) hk_.2.1)), (Kd.freshB (g := gb732) (o := .cells #[.bool a1_0, .string a1_1, .slice A1_2 l1_2.length c1_2] 54 (0, 0)) (bk BK732) k_ hk_.2.1)⟩)) (below_size bq)); have _ := bb (bk BK732) hb; have _ := bs hb; clear HO_0 HO_733002 BK732 HB; rename_i HO_0 HO_733002 HO747 BK732 HB; (try clear hb); (try clear hb2); (try clear hk); (try clear hi); (try clear ho0))))
           go_ret2
           exact ⟨_, re, by (with_reducible repeat (first | apply Kd.S_alloc | apply Kd.S_drewN | apply Kd.S_drew)); exact HS746.out, bq⟩
          ·replace c31 := Bool.eq_false_iff.mpr c31
           subst c31
           have H1 : (spec_ProbeHappen.l0 kj24 l0 t741 (([] : List (S40))) a1_0 0 a1_0 a1_1 l1_2) = some (r1, r2) := by rw [if_neg (show ¬ (false = true) by decide)] at H; exact H
           clear H
           have H := H1
           clear H1
           obtain ⟨y748, hy_⟩ : ∃ y_ : List (S40), y_ = (([] : List (S40))) := ⟨_, rfl⟩
           replace H : (spec_ProbeHappen.l0 kj24 l0 t741 y748 a1_0 0 a1_0 a1_1 l1_2) = some (r1, r2) := yh
           have Ny748 := ra hy_
           clear hy_
           have H' := Aside0.mk H
           clear H
           go_wp2_with (first | ((with_reducible refine gate_dst (N := 52) rfl ?_); (try (refine gate_guard (by rfl) ?_; dsimp only)); refine Kd.N_lit k40 _ 40 ?hg (N' := 52) ?hd (xs := ([] : List (S40))) (inner := []) (ok := (fun k_ => ((P0_ k_ ∨ P1_2_ k_) ∨ w.heap.size ≤ k_) ∧ k_ ≠ gb732)) (okp := (fun k_ => ((P0_ k_ ∨ P1_2_ k_) ∨ w.heap.size ≤ k_) ∧ k_ ≠ gb732)) ?hr ?hp (fun _ hk => hk) ((show ∀ k_, wc.heap.size ≤ k_ → (fun k_ => ((P0_ k_ ∨ P1_2_ k_) ∨ w.heap.size ≤ k_) ∧ k_ ≠ gb732) k_ from fun k_ hk => ⟨(.inr (Nat.le_trans (below_size bq) hk)), Kd.freshB (g := gb732) (o := .cells #[.bool a1_0, .string a1_1, .slice A1_2 l1_2.length c1_2] 54 (0, 0)) (bk BK732) k_ hk⟩) _ (Nat.le_refl _)) (Below.refl _ _) (Nat.le_refl _) (by simp) ?_; (case hd => rfl); (case hg => rfl); (case hr => first | (go_simp; done) | (go_simp; rfl)); (case hp => exact (Reps.none _ _)); intro v749 w34 ho35 hb hg_ hnew_; clear hg_ hnew_; (first | rw [← Ny748.out] at ho35 | (simp only [Int.reduceToNat] at ho35; rw [← Ny748.out] at ho35)); have _ := ra (Kd.V_elder' (by (with_reducible repeat (first | apply Kd.V_alloc | apply Kd.V_drewN | apply Kd.V_drew)); exact HO_0.out) (Kd.N_base ho35) hb); have _ := ra (Kd.V_elder' (by (with_reducible repeat (first | apply Kd.V_alloc | apply Kd.V_drewN | apply Kd.V_drew)); exact HO_733002.out) (Kd.N_base ho35) hb); have _ := ra (Kd.N_lower ho35 (below_size bq)); have _ := bb (bk BK732) hb; have _ := bs hb; clear HO_0 HO_733002 BK732 HB; rename_i HO_0 HO_733002 HO750 BK732 HB; clear hb ho35; have hcz36_0 : w34.cell? ⟨gb732, 0, none⟩ = some (.bool a1_0) := (blk_cell BK732.out 0).trans rfl; have hcz36_1 : w34.cell? ⟨gb732, 1, none⟩ = some (.string a1_1) := (blk_cell BK732.out 1).trans rfl; have hcz36_2 : w34.cell? ⟨gb732, 2, none⟩ = some (.slice A1_2 l1_2.length c1_2) := (blk_cell BK732.out 2).trans rfl; have hfz36_0 := blk_frozen BK732.out 0; have hfz36_1 := blk_frozen BK732.out 1; have hfz36_2 := blk_frozen BK732.out 2))
           repeat (go_quiet (first | ((with_reducible refine gate_dst (N := 52) rfl ?_); (try (refine gate_guard (by rfl) ?_; dsimp only)); refine Kd.N_lit k40 _ 40 ?hg (N' := 52) ?hd (xs := ([] : List (S40))) (inner := []) (ok := (fun k_ => ((P0_ k_ ∨ P1_2_ k_) ∨ w.heap.size ≤ k_) ∧ k_ ≠ gb732)) (okp := (fun k_ => ((P0_ k_ ∨ P1_2_ k_) ∨ w.heap.size ≤ k_) ∧ k_ ≠ gb732)) ?hr ?hp (fun _ hk => hk) ((show ∀ k_, wc.heap.size ≤ k_ → (fun k_ => ((P0_ k_ ∨ P1_2_ k_) ∨ w.heap.size ≤ k_) ∧ k_ ≠ gb732) k_ from fun k_ hk => ⟨(.inr (Nat.le_trans (below_size bq) hk)), Kd.freshB (g := gb732) (o := .cells #[.bool a1_0, .string a1_1, .slice A1_2 l1_2.length c1_2] 54 (0, 0)) (bk BK732) k_ hk⟩) _ (Nat.le_refl _)) (Below.refl _ _) (Nat.le_refl _) (by simp) ?_; (case hd => rfl); (case hg => rfl); (case hr => first | (go_simp; done) | (go_simp; rfl)); (case hp => exact (Reps.none _ _)); intro v749 w34 ho35 hb hg_ hnew_; clear hg_ hnew_; (first | rw [← Ny748.out] at ho35 | (simp only [Int.reduceToNat] at ho35; rw [← Ny748.out] at ho35)); have _ := ra (Kd.V_elder' (by (with_reducible repeat (first | apply Kd.V_alloc | apply Kd.V_drewN | apply Kd.V_drew)); exact HO_0.out) (Kd.N_base ho35) hb); have _ := ra (Kd.V_elder' (by (with_reducible repeat (first | apply Kd.V_alloc | apply Kd.V_drewN | apply Kd.V_drew)); exact HO_733002.out) (Kd.N_base ho35) hb); have _ := ra (Kd.N_lower ho35 (below_size bq)); have _ := bb (bk BK732) hb; have _ := bs hb; clear HO_0 HO_733002 BK732 HB; rename_i HO_0 HO_733002 HO750 BK732 HB; clear hb ho35; have hcz36_0 : w34.cell? ⟨gb732, 0, none⟩ = some (.bool a1_0) := (blk_cell BK732.out 0).trans rfl; have hcz36_1 : w34.cell? ⟨gb732, 1, none⟩ = some (.string a1_1) := (blk_cell BK732.out 1).trans rfl; have hcz36_2 : w34.cell? ⟨gb732, 2, none⟩ = some (.slice A1_2 l1_2.length c1_2) := (blk_cell BK732.out 2).trans rfl; have hfz36_0 := blk_frozen BK732.out 0; have hfz36_1 := blk_frozen BK732.out 1; have hfz36_2 := blk_frozen BK732.out 2)); try go_wp2_with (first | ((with_reducible refine gate_dst (N := 52) rfl ?_); (try (refine gate_guard (by rfl) ?_; dsimp only)); refine Kd.N_lit k40 _ 40 ?hg (N' := 52) ?hd (xs := ([] : List (S40))) (inner := []) (ok := (fun k_ => ((P0_ k_ ∨ P1_2_ k_) ∨ w.heap.size ≤ k_) ∧ k_ ≠ gb732)) (okp := (fun k_ => ((P0_ k_ ∨ P1_2_ k_) ∨ w.heap.size ≤ k_) ∧ k_ ≠ gb732)) ?hr ?hp (fun _ hk => hk) ((show ∀ k_, wc.heap.size ≤ k_ → (fun k_ => ((P0_ k_ ∨ P1_2_ k_) ∨ w.heap.size ≤ k_) ∧ k_ ≠ gb732) k_ from fun k_ hk => ⟨(.inr (Nat.le_trans (below_size bq) hk)), Kd.freshB (g := gb732) (o := .cells #[.bool a1_0, .string a1_1, .slice A1_2 l1_2.length c1_2] 54 (0, 0)) (bk BK732) k_ hk⟩) _ (Nat.le_refl _)) (Below.refl _ _) (Nat.le_refl _) (by simp) ?_; (case hd => rfl); (case hg => rfl); (case hr => first | (go_simp; done) | (go_simp; rfl)); (case hp => exact (Reps.none _ _)); intro v749 w34 ho35 hb hg_ hnew_; clear hg_ hnew_; (first | rw [← Ny748.out] at ho35 | (simp only [Int.reduceToNat] at ho35; rw [← Ny748.out] at ho35)); have _ := ra (Kd.V_elder' (by (with_reducible repeat (first | apply Kd.V_alloc | apply Kd.V_drewN | apply Kd.V_drew)); exact HO_0.out) (Kd.N_base ho35) hb); have _ := ra (Kd.V_elder' (by (with_reducible repeat (first | apply Kd.V_alloc | apply Kd.V_drewN | apply Kd.V_drew)); exact HO_733002.out) (Kd.N_base ho35) hb); have _ := ra (Kd.N_lower ho35 (below_size bq)); have _ := bb (bk BK732) hb; have _ := bs hb; clear HO_0 HO_733002 BK732 HB; rename_i HO_0 HO_733002 HO750 BK732 HB; clear hb ho35; have hcz36_0 : w34.cell? ⟨gb732, 0, none⟩ = some (.bool a1_0) := (blk_cell BK732.out 0).trans rfl; have hcz36_1 : w34.cell? ⟨gb732, 1, none⟩ = some (.string a1_1) := (blk_cell BK732.out 1).trans rfl; have hcz36_2 : w34.cell? ⟨gb732, 2, none⟩ = some (.slice A1_2 l1_2.length c1_2) := (blk_cell BK732.out 2).trans rfl; have hfz36_0 := blk_frozen BK732.out 0; have hfz36_1 := blk_frozen BK732.out 1; have hfz36_2 := blk_frozen BK732.out 2)))
           go_loopg [7, 8, 9] kj24 (fun kq v7 v8 v9 w' => ∃ (x7_4 : List (S40)) (x8_4 : Bool) (x9_4 : Int), v8 = .bool x8_4 ∧ v9 = .int .i64 x9_4 ∧ Aside0 (spec_ProbeHappen.l0 kq l0 t741 x7_4 x8_4 x9_4 a1_0 a1_1 l1_2 = some (r1, r2)) ∧ Aside0 (kq ≤ kj24) ∧ Aside0 (Kd.V k40 40 w' w.heap.size (fun k_ => ((P0_ k_ ∨ P1_2_ k_) ∨ w.heap.size ≤ k_) ∧ some k_ ≠ (v7 : Value).ownBlock ∧ k_ ≠ gb732) (.slice A0 l0.length c0) l0) ∧ Aside0 (Kd.N k40 40 w' w.heap.size (fun k_ => ((P0_ k_ ∨ P1_2_ k_) ∨ w.heap.size ≤ k_) ∧ k_ ≠ gb732) v7 x7_4) ∧ Aside0 (Kd.V k95 95 w' w.heap.size (fun k_ => ((P0_ k_ ∨ P1_2_ k_) ∨ w.heap.size ≤ k_) ∧ some k_ ≠ (v7 : Value).ownBlock ∧ k_ ≠ gb732) (.slice A1_2 l1_2.length c1_2) l1_2) ∧ Aside0 (w'.heap[gb732]? = some (.cells #[.bool a1_0, .string a1_1, (.slice A1_2 l1_2.length c1_2)] 54 (0, 0))) ∧ Aside0 (Below w.heap.size w w'))
           case atStart => exact ⟨(y748), (a1_0), (0), rs, rs, H', ⟨Nat.le_refl _⟩, ⟨by (with_reducible repeat (first | apply Kd.V_alloc | apply Kd.V_drewN | apply Kd.V_drew)); exact Kd.V_mono HO_0.out (fun _ hk => ⟨hk.1.1, ⟨hk.2, hk.1.2⟩⟩)⟩, ⟨by (with_reducible repeat (first | apply Kd.N_alloc | apply Kd.N_drewN | apply Kd.N_drew)); exact HO750.out⟩, ⟨by (with_reducible repeat (first | apply Kd.V_alloc | apply Kd.V_drewN | apply Kd.V_drew)); exact Kd.V_mono HO_733002.out (fun _ hk => ⟨hk.1.1, ⟨hk.2, hk.1.2⟩⟩)⟩, ⟨bk BK732⟩, ⟨bq⟩⟩
           case round =>
            clear H'
            try clear c4
            try clear c8
            try clear c13
            try clear c19
            try clear c22
            try clear c26
            try clear c28
            try clear c28b0
            try clear c31
            try clear hcz11_0
            try clear hcz11_1
            try clear hcz11_2
            try clear hcz18_0
            try clear hcz18_1
            try clear hcz18_2
            try clear hcz20_0
            try clear hcz20_1
            try clear hcz20_2
            try clear hcz21_0
            try clear hcz21_1
            try clear hcz21_2
            try clear hcz27_0
            try clear hcz27_1
            try clear hcz27_2
            try clear hcz29_0
            try clear hcz29_1
            try clear hcz29_2
            try clear hcz30_0
            try clear hcz30_1
            try clear hcz30_2
            try clear hcz36_0
            try clear hcz36_1
            try clear hcz36_2
            try clear hcz9_0
            try clear hcz9_1
            try clear hcz9_2
            try clear hfz11_0
            try clear hfz11_1
            try clear hfz11_2
            try clear hfz18_0
            try clear hfz18_1
            try clear hfz18_2
            try clear hfz20_0
            try clear hfz20_1
            try clear hfz20_2
            try clear hfz21_0
            try clear hfz21_1
            try clear hfz21_2
            try clear hfz27_0
            try clear hfz27_1
            try clear hfz27_2
            try clear hfz29_0
            try clear hfz29_1
            try clear hfz29_2
            try clear hfz30_0
            try clear hfz30_1
            try clear hfz30_2
            try clear hfz36_0
            try clear hfz36_1
            try clear hfz36_2
            try clear hfz9_0
            try clear hfz9_1
            try clear hfz9_2
            obtain ⟨x7_4, x8_4, x9_4, rfl, rfl, HA, HK4, HO_0, HO_7, HO_733002, BK732, HB⟩ := hrel
            cases gk with
            | zero => exact absurd HA.out (by simp [spec_ProbeHappen.l0])
            | succ k4 =>
             have H := HA.out
             clear HA
             simp only [spec_ProbeHappen.l0] at H
             by_cases c37 : x9_4 < (l0.length : Int)
             ·rw [if_pos c37] at H
              have c37b0 : decide (x9_4 < (l0.length : Int)) = true := decide_eq_true c37
              clear c37
              have HC38 := Aside0.mk H
              clear H
              go_upto_region 15 with (fail)
              repeat (go_quiet (fail); go_upto_region 15 with (fail))
              go_cut [73] (fun v73 wc => ∃ (kq : Nat) (x73_37 : Bool), v73 = .bool x73_37 ∧ Aside0 (spec_ProbeHappen.j4 kq l0 t741 x7_4 x8_4 x9_4 x73_37 a1_0 a1_1 l1_2 = some (r1, r2)) ∧ Aside0 (kq ≤ k4) ∧ Aside0 (Kd.V k40 40 wc w.heap.size (fun k_ => ((P0_ k_ ∨ P1_2_ k_) ∨ w.heap.size ≤ k_) ∧ some k_ ≠ (u7 : Value).ownBlock ∧ k_ ≠ gb732) (.slice A0 l0.length c0) l0) ∧ Aside0 (Kd.N k40 40 wc w.heap.size (fun k_ => ((P0_ k_ ∨ P1_2_ k_) ∨ w.heap.size ≤ k_) ∧ k_ ≠ gb732) u7 x7_4) ∧ Aside0 (Kd.V k95 95 wc w.heap.size (fun k_ => ((P0_ k_ ∨ P1_2_ k_) ∨ w.heap.size ≤ k_) ∧ some k_ ≠ (u7 : Value).ownBlock ∧ k_ ≠ gb732) (.slice A1_2 l1_2.length c1_2) l1_2) ∧ Aside0 (wc.heap[gb732]? = some (.cells #[.bool a1_0, .string a1_1, (.slice A1_2 l1_2.length c1_2)] 54 (0, 0))) ∧ Aside0 (Below w.heap.size w wc))
              case first =>
               have H := HC38.out
               clear HC38
               by_cases c39 : x8_4 = true
               ·subst c39
                replace H := it H rfl
                have H' := Aside0.mk H
                clear H
                go_wp2
                repeat (go_quiet (fail); try go_wp2)
                go_meet
                case rel => exact ⟨_, (false), rs, H', ⟨by have := HJ4.out; have := HJ16.out; have := HJ24.out; have := HK4.out; first | omega | exact Nat.le_refl _⟩, ⟨by (with_reducible repeat (first | apply Kd.V_alloc | apply Kd.V_drewN | apply Kd.V_drew)); exact HO_0.out⟩, ⟨by (with_reducible repeat (first | apply Kd.N_alloc | apply Kd.N_drewN | apply Kd.N_drew)); exact HO_7.out⟩, ⟨by (with_reducible repeat (first | apply Kd.V_alloc | apply Kd.V_drewN | apply Kd.V_drew)); exact HO_733002.out⟩, ⟨bk BK732⟩, ⟨bq⟩⟩
               ·replace c39 := Bool.eq_false_iff.mpr c39
                subst c39
                have H1 : (if 0 ≤ x9_4 then (spec_ProbeHappen.j4 k4 l0 t741 x7_4 false x9_4 (!(Op.bytesLess (((rd_T40 l0 x9_4).f0).toList) a1_1.toList)) a1_0 a1_1 l1_2) else (none)) = some (r1, r2) := by rw [if_neg (show ¬ (false = true) by decide)] at H; exact H
                clear H
                have H := H1
                clear H1
                by_cases c40 : 0 ≤ x9_4
                ·rw [if_pos c40] at H
                 have c40b0 : decide (0 ≤ x9_4) = true := decide_eq_true c40
                 clear c40
                 (first | rw [c40b0] | (simp only [i64_w, i32_w]; rw [c40b0]) | skip)
                 have H' := Aside0.mk H
                 clear H
                 have p760 : 0 ≤ (x9_4 : Int) := od
                 have q760 : x9_4 < (l0.length : Int) := od
                 obtain ⟨ad760, A760_1, c760_1, e760, hx760_0, hx760_1, hl760_1, hi760_1⟩ := at_T40 (Kd.V_reads' HO_0.out).2.2 x9_4 p760 q760
                 cases e760
                 obtain ⟨ce760, hce760, hMe760, hcc760⟩ := Kd.V_get HO_0.out z40 x9_4 p760 (by first | exact q760 | exact od | (have e_ := (Kd.V_reads' HO_0.out).1; omega))
                 obtain ⟨ua760_1, uc760_1, rfl, ul760_1, ge760_1⟩ := k40_openF hMe760
                 have hv760_1 := hcc760 1 _ rfl
                 rw [add_field _ _ 1 (by omega)] at hv760_1
                 replace hv760_1 := Option.some.inj (hv760_1.symm.trans hx760_1)
                 injection hv760_1 with hva_ hvn_ hvc_
                 rw [hva_] at ge760_1
                 rw [hvc_] at ul760_1
                 have HL760_1 := ra (show Kd.V k95 95 _ w.heap.size _ _ ((rd_T40 l0 x9_4).f1) from Kd.V_mk ul760_1 ge760_1)
                 clear hva_ hvn_ hvc_ ge760_1 ul760_1
                 clear hcc760 hce760
                 have HR760_1 := Aside0.mk hi760_1
                 have HC760_1 := Aside0.mk hl760_1
                 clear hi760_1 hl760_1
                 replace p760 := eq_true p760
                 replace q760 := eq_true q760
                 have hcz41_0 : wr.cell? ⟨gb732, 0, none⟩ = some (.bool a1_0) := (blk_cell BK732.out 0).trans rfl
                 have hcz41_1 : wr.cell? ⟨gb732, 1, none⟩ = some (.string a1_1) := (blk_cell BK732.out 1).trans rfl
                 have hcz41_2 : wr.cell? ⟨gb732, 2, none⟩ = some (.slice A1_2 l1_2.length c1_2) := (blk_cell BK732.out 2).trans rfl
                 have hfz41_0 := blk_frozen BK732.out 0
                 have hfz41_1 := blk_frozen BK732.out 1
                 have hfz41_2 := blk_frozen BK732.out 2
                 go_wp2
                 repeat (go_quiet (fail); try go_wp2)
                 go_meet
                 case rel => exact ⟨_, (!(Op.bytesLess (((rd_T40 l0 x9_4).f0).toList) a1_1.toList)), rs, H', ⟨by have := HJ4.out; have := HJ16.out; have := HJ24.out; have := HK4.out; first | omega | exact Nat.le_refl _⟩, ⟨by (with_reducible repeat (first | apply Kd.V_alloc | apply Kd.V_drewN | apply Kd.V_drew)); exact HO_0.out⟩, ⟨by (with_reducible repeat (first | apply Kd.N_alloc | apply Kd.N_drewN | apply Kd.N_drew)); exact HO_7.out⟩, ⟨by (with_reducible repeat (first | apply Kd.V_alloc | apply Kd.V_drewN | apply Kd.V_drew)); exact HO_733002.out⟩, ⟨bk BK732⟩, ⟨bq⟩⟩
                ·rw [if_neg c40] at H
                 exact absurd H (by simp)
              case rest =>
               clear HC38
               try clear c4
               try clear c8
               try clear c13
               try clear c19
               try clear c22
               try clear c26
               try clear c28
               try clear c28b0
               try clear c31
               try clear c37
               try clear c37b0
               try clear c39
               try clear c40
               try clear c40b0
               try clear hcz11_0
               try clear hcz11_1
               try clear hcz11_2
               try clear hcz18_0
               try clear hcz18_1
               try clear hcz18_2
               try clear hcz20_0
               try clear hcz20_1
               try clear hcz20_2
               try clear hcz21_0
               try clear hcz21_1
               try clear hcz21_2
               try clear hcz27_0
               try clear hcz27_1
               try clear hcz27_2
               try clear hcz29_0
               try clear hcz29_1
               try clear hcz29_2
               try clear hcz30_0
               try clear hcz30_1
               try clear hcz30_2
               try clear hcz36_0
               try clear hcz36_1
               try clear hcz36_2
               try clear hcz41_0
               try clear hcz41_1
               try clear hcz41_2
               try clear hcz9_0
               try clear hcz9_1
               try clear hcz9_2
               try clear hfz11_0
               try clear hfz11_1
               try clear hfz11_2
               try clear hfz18_0
               try clear hfz18_1
               try clear hfz18_2
               try clear hfz20_0
               try clear hfz20_1
               try clear hfz20_2
               try clear hfz21_0
               try clear hfz21_1
               try clear hfz21_2
               try clear hfz27_0
               try clear hfz27_1
               try clear hfz27_2
               try clear hfz29_0
               try clear hfz29_1
               try clear hfz29_2
               try clear hfz30_0
               try clear hfz30_1
               try clear hfz30_2
               try clear hfz36_0
               try clear hfz36_1
               try clear hfz36_2
               try clear hfz41_0
               try clear hfz41_1
               try clear hfz41_2
               try clear hfz9_0
               try clear hfz9_1
               try clear hfz9_2
               try clear hx760_0
               try clear hx760_1
               try clear p760
               try clear q760
               obtain ⟨kq, x73_37, rfl, HA, HJ37, HO_0, HO_7, HO_733002, BK732, HB⟩ := hcut
               cases kq with
               | zero => exact absurd HA.out (by simp [spec_ProbeHappen.j4])
               | succ kj37 =>
                have H := HA.out
                clear HA
                simp only [spec_ProbeHappen.j4] at H
                by_cases c42 : x73_37 = true
                ·subst c42
                 replace H := it H rfl
                 by_cases c43 : x7_4.length < 3518437208883
                 ·rw [if_pos c43] at H
                  have LMc43 := Aside0.mk c43
                  clear c43
                  obtain ⟨y761, hy_⟩ : ∃ y_ : List (S40), y_ = (x7_4 ++ [(⟨a1_1, l1_2⟩ : S40)]) := ⟨_, rfl⟩
                  replace H : (if x9_4 = t741 then (spec_ProbeHappen.l0 kj37 l0 t741 y761 true (wrap64 (x9_4 + 1)) a1_0 a1_1 l1_2) else (if 0 ≤ x9_4 then (if x9_4 < (l0.length : Int) then (if y761.length < 3518437208883 then (spec_ProbeHappen.l0 kj37 l0 t741 (y761 ++ [(⟨(rd_T40 l0 x9_4).f0, (rd_T40 l0 x9_4).f1⟩ : S40)]) true (wrap64 (x9_4 + 1)) a1_0 a1_1 l1_2) else (none)) else (none)) else (none))) = some (r1, r2) := yh
                  have Ny761 := ra hy_
                  clear hy_
                  by_cases c44 : x9_4 = t741
                  ·rw [if_pos c44] at H
                   have c44b0 : (x9_4 == t741) = true := beq_iff_eq.mpr c44
                   have c44b1 : (x9_4 != t741) = false := bne_eq_false_iff_eq.mpr c44
                   clear c44
                   have H' := Aside0.mk H
                   clear H
                   have hcz45_0 : wc.cell? ⟨gb732, 0, none⟩ = some (.bool a1_0) := (blk_cell BK732.out 0).trans rfl
                   have hcz45_1 : wc.cell? ⟨gb732, 1, none⟩ = some (.string a1_1) := (blk_cell BK732.out 1).trans rfl
                   have hcz45_2 : wc.cell? ⟨gb732, 2, none⟩ = some (.slice A1_2 l1_2.length c1_2) := (blk_cell BK732.out 2).trans rfl
                   have hfz45_0 := blk_frozen BK732.out 0
                   have hfz45_1 := blk_frozen BK732.out 1
                   have hfz45_2 := blk_frozen BK732.out 2
                   go_wp2_with (first | ((with_reducible refine gate_builtin (b := .append) (xs := #[.tmp 74, .tmp 77]) rfl ?_); (try (refine gate_guard (by rfl) ?_; dsimp only)); at_builtin; refine Kd.N_append k40 (w0 := w) w.heap.size rfl (.tmp 74) (.tmp 77) 26 40 (.agg #[(.string ⟨#[]⟩), (.slice none 0 0)]) 40 rfl Try.underlying26 info40 rfl (by decide) (by omega) u7 x7_4 (⟨a1_1, l1_2⟩ : S40) [.string a1_1, .slice A1_2 l1_2.length c1_2] (fun k_ => ((P0_ k_ ∨ P1_2_ k_) ∨ w.heap.size ≤ k_) ∧ k_ ≠ gb732) (fun k_ => ((fun k_ => ((P0_ k_ ∨ P1_2_ k_) ∨ w.heap.size ≤ k_) ∧ k_ ≠ gb732)) k_ ∧ some k_ ≠ (u7 : Value).ownBlock) rfl rfl ?aP (fun _ hk => hk) ?aF ?aO ?aB ?aS ?aL ?_; (case aP => exact (k40_mkF _ _ (⟨a1_1, l1_2⟩ : S40) (Kd.V_reads' (Kd.V_mono (ok' := (fun k_ => ((fun k_ => ((P0_ k_ ∨ P1_2_ k_) ∨ w.heap.size ≤ k_) ∧ k_ ≠ gb732)) k_ ∧ some k_ ≠ (u7 : Value).ownBlock)) (HO_733002.out) (fun k_ hk => ⟨⟨hk.1, hk.2.2⟩, hk.2.1⟩))).2.1 (Kd.V_F (Kd.V_mono (ok' := (fun k_ => ((fun k_ => ((P0_ k_ ∨ P1_2_ k_) ∨ w.heap.size ≤ k_) ∧ k_ ≠ gb732)) k_ ∧ some k_ ≠ (u7 : Value).ownBlock)) (HO_733002.out) (fun k_ hk => ⟨⟨hk.1, hk.2.2⟩, hk.2.1⟩))))); (case aB => exact bq); (case aF => exact (fun k_ hk => ⟨(.inr (Nat.le_trans (below_size bq) hk)), Kd.freshB (g := gb732) (o := .cells #[.bool a1_0, .string a1_1, .slice A1_2 l1_2.length c1_2] 54 (0, 0)) (bk BK732) k_ hk⟩)); (case aO => exact (by (with_reducible repeat (first | apply Kd.N_alloc | apply Kd.N_drewN | apply Kd.N_drew)); exact HO_7.out)); (case aS => exact (below_size bq)); (case aL => have := LMc43.out; omega); intro v762 w46 ho hb hg hat; rw [← Ny761.out] at ho; have _ := ra (Kd.V_afterv (ok := (fun k_ => ((P0_ k_ ∨ P1_2_ k_) ∨ w.heap.size ≤ k_) ∧ k_ ≠ gb732)) (by (with_reducible repeat (first | apply Kd.V_alloc | apply Kd.V_drewN | apply Kd.V_drew)); exact Kd.V_mono HO_0.out (fun _ hk => ⟨⟨hk.1, hk.2.2⟩, hk.2.1⟩)) hg hat); have _ := ra (Kd.V_afterv (ok := (fun k_ => ((P0_ k_ ∨ P1_2_ k_) ∨ w.heap.size ≤ k_) ∧ k_ ≠ gb732)) (by (with_reducible repeat (first | apply Kd.V_alloc | apply Kd.V_drewN | apply Kd.V_drew)); exact Kd.V_mono HO_733002.out (fun _ hk => ⟨⟨hk.1, hk.2.2⟩, hk.2.1⟩)) hg hat); have _ := ra (blk_grown (g := gb732) (o := .cells #[.bool a1_0, .string a1_1, .slice A1_2 l1_2.length c1_2] 54 (0, 0)) (bk BK732) hg (Kd.N_ne HO_7.out BK732.out (by decide))); have _ := ra (hb); have _ := ra (ho); clear HO_0 HO_733002 BK732 HB HO_7; rename_i HO_0 HO_733002 BK732 HB HO763; clear ho hb hg hat))
                   repeat (go_quiet (first | ((with_reducible refine gate_builtin (b := .append) (xs := #[.tmp 74, .tmp 77]) rfl ?_); (try (refine gate_guard (by rfl) ?_; dsimp only)); at_builtin; refine Kd.N_append k40 (w0 := w) w.heap.size rfl (.tmp 74) (.tmp 77) 26 40 (.agg #[(.string ⟨#[]⟩), (.slice none 0 0)]) 40 rfl Try.underlying26 info40 rfl (by decide) (by omega) u7 x7_4 (⟨a1_1, l1_2⟩ : S40) [.string a1_1, .slice A1_2 l1_2.length c1_2] (fun k_ => ((P0_ k_ ∨ P1_2_ k_) ∨ w.heap.size ≤ k_) ∧ k_ ≠ gb732) (fun k_ => ((fun k_ => ((P0_ k_ ∨ P1_2_ k_) ∨ w.heap.size ≤ k_) ∧ k_ ≠ gb732)) k_ ∧ some k_ ≠ (u7 : Value).ownBlock) rfl rfl ?aP (fun _ hk => hk) ?aF ?aO ?aB ?aS ?aL ?_; (case aP => exact (k40_mkF _ _ (⟨a1_1, l1_2⟩ : S40) (Kd.V_reads' (Kd.V_mono (ok' := (fun k_ => ((fun k_ => ((P0_ k_ ∨ P1_2_ k_) ∨ w.heap.size ≤ k_) ∧ k_ ≠ gb732)) k_ ∧ some k_ ≠ (u7 : Value).ownBlock)) (HO_733002.out) (fun k_ hk => ⟨⟨hk.1, hk.2.2⟩, hk.2.1⟩))).2.1 (Kd.V_F (Kd.V_mono (ok' := (fun k_ => ((fun k_ => ((P0_ k_ ∨ P1_2_ k_) ∨ w.heap.size ≤ k_) ∧ k_ ≠ gb732)) k_ ∧ some k_ ≠ (u7 : Value).ownBlock)) (HO_733002.out) (fun k_ hk => ⟨⟨hk.1, hk.2.2⟩, hk.2.1⟩))))); (case aB => exact bq); (case aF => exact (fun k_ hk => ⟨(.inr (Nat.le_trans (below_size bq) hk)), Kd.freshB (g := gb732) (o := .cells #[.bool a1_0, .string a1_1, .slice A1_2 l1_2.length c1_2] 54 (0, 0)) (bk BK732) k_ hk⟩)); (case aO => exact (by (with_reducible repeat (first | apply Kd.N_alloc | apply Kd.N_drewN | apply Kd.N_drew)); exact HO_7.out)); (case aS => exact (below_size bq)); (case aL => have := LMc43.out; omega); intro v762 w46 ho hb hg hat; rw [← Ny761.out] at ho; have _ := ra (Kd.V_afterv (ok := (fun k_ => ((P0_ k_ ∨ P1_2_ k_) ∨ w.heap.size ≤ k_) ∧ k_ ≠ gb732)) (by (with_reducible repeat (first | apply Kd.V_alloc | apply Kd.V_drewN | apply Kd.V_drew)); exact Kd.V_mono HO_0.out (fun _ hk => ⟨⟨hk.1, hk.2.2⟩, hk.2.1⟩)) hg hat); have _ := ra (Kd.V_afterv (ok := (fun k_ => ((P0_ k_ ∨ P1_2_ k_) ∨ w.heap.size ≤ k_) ∧ k_ ≠ gb732)) (by (with_reducible repeat (first | apply Kd.V_alloc | apply Kd.V_drewN | apply Kd.V_drew)); exact Kd.V_mono HO_733002.out (fun _ hk => ⟨⟨hk.1, hk.2.2⟩, hk.2.1⟩)) hg hat); have _ := ra (blk_grown (g := gb732) (o := .cells #[.bool a1_0, .string a1_1, .slice A1_2 l1_2.length c1_2] 54 (0, 0)) (bk BK732) hg (Kd.N_ne HO_7.out BK732.out (by decide))); have _ := ra (hb); have _ := ra (ho); clear HO_0 HO_733002 BK732 HB HO_7; rename_i HO_0 HO_733002 BK732 HB HO763; clear ho hb hg hat)); try go_wp2_with (first | ((with_reducible refine gate_builtin (b := .append) (xs := #[.tmp 74, .tmp 77]) rfl ?_); (try (refine gate_guard (by rfl) ?_; dsimp only)); at_builtin; refine Kd.N_append k40 (w0 := w) w.heap.size rfl (.tmp 74) (.tmp 77) 26 40 (.agg #[(.string ⟨#[]⟩), (.slice none 0 0)]) 40 rfl Try.underlying26 info40 rfl (by decide) (by omega) u7 x7_4 (⟨a1_1, l1_2⟩ : S40) [.string a1_1, .slice A1_2 l1_2.length c1_2] (fun k_ => ((P0_ k_ ∨ P1_2_ k_) ∨ w.heap.size ≤ k_) ∧ k_ ≠ gb732) (fun k_ => ((fun k_ => ((P0_ k_ ∨ P1_2_ k_) ∨ w.heap.size ≤ k_) ∧ k_ ≠ gb732)) k_ ∧ some k_ ≠ (u7 : Value).ownBlock) rfl rfl ?aP (fun _ hk => hk) ?aF ?aO ?aB ?aS ?aL ?_; (case aP => exact (k40_mkF _ _ (⟨a1_1, l1_2⟩ : S40) (Kd.V_reads' (Kd.V_mono (ok' := (fun k_ => ((fun k_ => ((P0_ k_ ∨ P1_2_ k_) ∨ w.heap.size ≤ k_) ∧ k_ ≠ gb732)) k_ ∧ some k_ ≠ (u7 : Value).ownBlock)) (HO_733002.out) (fun k_ hk => ⟨⟨hk.1, hk.2.2⟩, hk.2.1⟩))).2.1 (Kd.V_F (Kd.V_mono (ok' := (fun k_ => ((fun k_ => ((P0_ k_ ∨ P1_2_ k_) ∨ w.heap.size ≤ k_) ∧ k_ ≠ gb732)) k_ ∧ some k_ ≠ (u7 : Value).ownBlock)) (HO_733002.out) (fun k_ hk => ⟨⟨hk.1, hk.2.2⟩, hk.2.1⟩))))); (case aB => exact bq); (case aF => exact (fun k_ hk => ⟨(.inr (Nat.le_trans (below_size bq) hk)), Kd.freshB (g := gb732) (o := .cells #[.bool a1_0, .string a1_1, .slice A1_2 l1_2.length c1_2] 54 (0, 0)) (bk BK732) k_ hk⟩)); (case aO => exact (by (with_reducible repeat (first | apply Kd.N_alloc | apply Kd.N_drewN | apply Kd.N_drew)); exact HO_7.out)); (case aS => exact (below_size bq)); (case aL => have := LMc43.out; omega); intro v762 w46 ho hb hg hat; rw [← Ny761.out] at ho; have _ := ra (Kd.V_afterv (ok := (fun k_ => ((P0_ k_ ∨ P1_2_ k_) ∨ w.heap.size ≤ k_) ∧ k_ ≠ gb732)) (by (with_reducible repeat (first | apply Kd.V_alloc | apply Kd.V_drewN | apply Kd.V_drew)); exact Kd.V_mono HO_0.out (fun _ hk => ⟨⟨hk.1, hk.2.2⟩, hk.2.1⟩)) hg hat); have _ := ra (Kd.V_afterv (ok := (fun k_ => ((P0_ k_ ∨ P1_2_ k_) ∨ w.heap.size ≤ k_) ∧ k_ ≠ gb732)) (by (with_reducible repeat (first | apply Kd.V_alloc | apply Kd.V_drewN | apply Kd.V_drew)); exact Kd.V_mono HO_733002.out (fun _ hk => ⟨⟨hk.1, hk.2.2⟩, hk.2.1⟩)) hg hat); have _ := ra (blk_grown (g := gb732) (o := .cells #[.bool a1_0, .string a1_1, .slice A1_2 l1_2.length c1_2] 54 (0, 0)) (bk BK732) hg (Kd.N_ne HO_7.out BK732.out (by decide))); have _ := ra (hb); have _ := ra (ho); clear HO_0 HO_733002 BK732 HB HO_7; rename_i HO_0 HO_733002 BK732 HB HO763; clear ho hb hg hat)))
                   go_roundg kj37
                   case measure => have := HJ4.out; have := HJ16.out; have := HJ24.out; have := HK4.out; have := HJ37.out; omega
                   case rel => exact ⟨(y761), (true), (wrap64 (x9_4 + 1)), rs, rs, H', ⟨by have := HJ4.out; have := HJ16.out; have := HJ24.out; have := HK4.out; have := HJ37.out; omega⟩, ⟨by (with_reducible repeat (first | apply Kd.V_alloc | apply Kd.V_drewN | apply Kd.V_drew)); exact Kd.V_mono HO_0.out (fun _ hk => ⟨hk.1.1, ⟨hk.2, hk.1.2⟩⟩)⟩, ⟨by (with_reducible repeat (first | apply Kd.N_alloc | apply Kd.N_drewN | apply Kd.N_drew)); exact HO763.out⟩, ⟨by (with_reducible repeat (first | apply Kd.V_alloc | apply Kd.V_drewN | apply Kd.V_drew)); exact Kd.V_mono HO_733002.out (fun _ hk => ⟨hk.1.1, ⟨hk.2, hk.1.2⟩⟩)⟩, ⟨bk BK732⟩, ⟨bq⟩⟩
                  ·rw [if_neg c44] at H
                   have c44b0 : (x9_4 == t741) = false := beq_eq_false_iff_ne.mpr c44
                   have c44b1 : (x9_4 != t741) = true := bne_iff_ne.mpr c44
                   by_cases c47 : 0 ≤ x9_4
                   ·rw [if_pos c47] at H
                    have c47b0 : decide (0 ≤ x9_4) = true := decide_eq_true c47
                    clear c47
                    by_cases c48 : x9_4 < (l0.length : Int)
                    ·rw [if_pos c48] at H
                     have c48b0 : decide (x9_4 < (l0.length : Int)) = true := decide_eq_true c48
                     clear c48
                     by_cases c49 : y761.length < 3518437208883
                     ·rw [if_pos c49] at H
                      have LMc49 := Aside0.mk c49
                      clear c49
                      obtain ⟨y765, hy_⟩ : ∃ y_ : List (S40), y_ = (y761 ++ [(⟨(rd_T40 l0 x9_4).f0, (rd_T40 l0 x9_4).f1⟩ : S40)]) := ⟨_, rfl⟩
                      replace H : (spec_ProbeHappen.l0 kj37 l0 t741 y765 true (wrap64 (x9_4 + 1)) a1_0 a1_1 l1_2) = some (r1, r2) := yh
                      have Ny765 := ra hy_
                      clear hy_
                      have H' := Aside0.mk H
                      clear H
                      have hcz50_0 : wc.cell? ⟨gb732, 0, none⟩ = some (.bool a1_0) := (blk_cell BK732.out 0).trans rfl
                      have hcz50_1 : wc.cell? ⟨gb732, 1, none⟩ = some (.string a1_1) := (blk_cell BK732.out 1).trans rfl
                      have hcz50_2 : wc.cell? ⟨gb732, 2, none⟩ = some (.slice A1_2 l1_2.length c1_2) := (blk_cell BK732.out 2).trans rfl
                      have hfz50_0 := blk_frozen BK732.out 0
                      have hfz50_1 := blk_frozen BK732.out 1
                      have hfz50_2 := blk_frozen BK732.out 2
                      go_wp2_with (first | ((with_reducible refine gate_builtin (b := .append) (xs := #[.tmp 74, .tmp 77]) rfl ?_); (try (refine gate_guard (by rfl) ?_; dsimp only)); at_builtin; refine Kd.N_append k40 (w0 := w) w.heap.size rfl (.tmp 74) (.tmp 77) 26 40 (.agg #[(.string ⟨#[]⟩), (.slice none 0 0)]) 40 rfl Try.underlying26 info40 rfl (by decide) (by omega) u7 x7_4 (⟨a1_1, l1_2⟩ : S40) [.string a1_1, .slice A1_2 l1_2.length c1_2] (fun k_ => ((P0_ k_ ∨ P1_2_ k_) ∨ w.heap.size ≤ k_) ∧ k_ ≠ gb732) (fun k_ => ((fun k_ => ((P0_ k_ ∨ P1_2_ k_) ∨ w.heap.size ≤ k_) ∧ k_ ≠ gb732)) k_ ∧ some k_ ≠ (u7 : Value).ownBlock) rfl rfl ?aP (fun _ hk => hk) ?aF ?aO ?aB ?aS ?aL ?_; (case aP => exact (k40_mkF _ _ (⟨a1_1, l1_2⟩ : S40) (Kd.V_reads' (Kd.V_mono (ok' := (fun k_ => ((fun k_ => ((P0_ k_ ∨ P1_2_ k_) ∨ w.heap.size ≤ k_) ∧ k_ ≠ gb732)) k_ ∧ some k_ ≠ (u7 : Value).ownBlock)) (HO_733002.out) (fun k_ hk => ⟨⟨hk.1, hk.2.2⟩, hk.2.1⟩))).2.1 (Kd.V_F (Kd.V_mono (ok' := (fun k_ => ((fun k_ => ((P0_ k_ ∨ P1_2_ k_) ∨ w.heap.size ≤ k_) ∧ k_ ≠ gb732)) k_ ∧ some k_ ≠ (u7 : Value).ownBlock)) (HO_733002.out) (fun k_ hk => ⟨⟨hk.1, hk.2.2⟩, hk.2.1⟩))))); (case aB => exact bq); (case aF => exact (fun k_ hk => ⟨(.inr (Nat.le_trans (below_size bq) hk)), Kd.freshB (g := gb732) (o := .cells #[.bool a1_0, .string a1_1, .slice A1_2 l1_2.length c1_2] 54 (0, 0)) (bk BK732) k_ hk⟩)); (case aO => exact (by (with_reducible repeat (first | apply Kd.N_alloc | apply Kd.N_drewN | apply Kd.N_drew)); exact HO_7.out)); (case aS => exact (below_size bq)); (case aL => have := LMc43.out; omega); intro v762 w51 ho hb hg hat; rw [← Ny761.out] at ho; have _ := ra (Kd.V_afterv (ok := (fun k_ => ((P0_ k_ ∨ P1_2_ k_) ∨ w.heap.size ≤ k_) ∧ k_ ≠ gb732)) (by (with_reducible repeat (first | apply Kd.V_alloc | apply Kd.V_drewN | apply Kd.V_drew)); exact Kd.V_mono HO_0.out (fun _ hk => ⟨⟨hk.1, hk.2.2⟩, hk.2.1⟩)) hg hat); have _ := ra (Kd.V_afterv (ok := (fun k_ => ((P0_ k_ ∨ P1_2_ k_) ∨ w.heap.size ≤ k_) ∧ k_ ≠ gb732)) (by (with_reducible repeat (first | apply Kd.V_alloc | apply Kd.V_drewN | apply Kd.V_drew)); exact Kd.V_mono HO_733002.out (fun _ hk => ⟨⟨hk.1, hk.2.2⟩, hk.2.1⟩)) hg hat); have _ := ra (blk_grown (g := gb732) (o := .cells #[.bool a1_0, .string a1_1, .slice A1_2 l1_2.length c1_2] 54 (0, 0)) (bk BK732) hg (Kd.N_ne HO_7.out BK732.out (by decide))); have _ := ra (hb); have _ := ra (ho); clear HO_0 HO_733002 BK732 HB HO_7; rename_i HO_0 HO_733002 BK732 HB HO763; clear ho hb hg hat; have p764 : 0 ≤ (x9_4 : Int) := od; have q764 : x9_4 < (l0.length : Int) := od; obtain ⟨ad764, A764_1, c764_1, e764, hx764_0, hx764_1, hl764_1, hi764_1⟩ := at_T40 (Kd.V_reads' HO_0.out).2.2 x9_4 p764 q764; cases e764; obtain ⟨ce764, hce764, hMe764, hcc764⟩ := Kd.V_get HO_0.out z40 x9_4 p764 (by first | exact q764 | exact od | (have e_ := (Kd.V_reads' HO_0.out).1; omega)); obtain ⟨ua764_1, uc764_1, rfl, ul764_1, ge764_1⟩ := k40_openF hMe764; have hv764_1 := hcc764 1 _ rfl; rw [add_field _ _ 1 (by omega)] at hv764_1; replace hv764_1 := Option.some.inj (hv764_1.symm.trans hx764_1); injection hv764_1 with hva_ hvn_ hvc_; rw [hva_] at ge764_1; rw [hvc_] at ul764_1; have HL764_1 := ra (show Kd.V k95 95 _ w.heap.size _ _ ((rd_T40 l0 x9_4).f1) from Kd.V_mk ul764_1 ge764_1); clear hva_ hvn_ hvc_ ge764_1 ul764_1; clear hcc764 hce764; have HR764_1 := Aside0.mk hi764_1; have HC764_1 := Aside0.mk hl764_1; clear hi764_1 hl764_1; replace p764 := eq_true p764; replace q764 := eq_true q764) | ((with_reducible refine gate_builtin (b := .append) (xs := #[.tmp 82, .tmp 87]) rfl ?_); (try (refine gate_guard (by rfl) ?_; dsimp only)); at_builtin; refine Kd.N_append k40 (w0 := w) w.heap.size rfl (.tmp 82) (.tmp 87) 26 40 (.agg #[(.string ⟨#[]⟩), (.slice none 0 0)]) 40 rfl Try.underlying26 info40 rfl (by decide) (by omega) v762 y761 (⟨(rd_T40 l0 x9_4).f0, (rd_T40 l0 x9_4).f1⟩ : S40) [.string ((rd_T40 l0 x9_4).f0), .slice A764_1 ((rd_T40 l0 x9_4).f1).length c764_1] (fun k_ => ((P0_ k_ ∨ P1_2_ k_) ∨ w.heap.size ≤ k_) ∧ k_ ≠ gb732) (fun k_ => ((fun k_ => ((P0_ k_ ∨ P1_2_ k_) ∨ w.heap.size ≤ k_) ∧ k_ ≠ gb732)) k_ ∧ some k_ ≠ (v762 : Value).ownBlock) rfl rfl ?aP (fun _ hk => hk) ?aF ?aO ?aB ?aS ?aL ?_; (case aP => exact (k40_mkF _ _ (⟨(rd_T40 l0 x9_4).f0, (rd_T40 l0 x9_4).f1⟩ : S40) (Kd.V_reads' (Kd.V_mono (ok' := (fun k_ => ((fun k_ => ((P0_ k_ ∨ P1_2_ k_) ∨ w.heap.size ≤ k_) ∧ k_ ≠ gb732)) k_ ∧ some k_ ≠ (v762 : Value).ownBlock)) (HL764_1.out) (fun k_ hk => ⟨⟨hk.1.1, hk.1.2⟩, hk.2⟩))).2.1 (Kd.V_F (Kd.V_mono (ok' := (fun k_ => ((fun k_ => ((P0_ k_ ∨ P1_2_ k_) ∨ w.heap.size ≤ k_) ∧ k_ ≠ gb732)) k_ ∧ some k_ ≠ (v762 : Value).ownBlock)) (HL764_1.out) (fun k_ hk => ⟨⟨hk.1.1, hk.1.2⟩, hk.2⟩))))); (case aB => exact bq); (case aF => exact (fun k_ hk => ⟨(.inr (Nat.le_trans (below_size bq) hk)), Kd.freshB (g := gb732) (o := .cells #[.bool a1_0, .string a1_1, .slice A1_2 l1_2.length c1_2] 54 (0, 0)) (bk BK732) k_ hk⟩)); (case aO => exact (by (with_reducible repeat (first | apply Kd.N_alloc | apply Kd.N_drewN | apply Kd.N_drew)); exact HO763.out)); (case aS => exact (below_size bq)); (case aL => have := LMc49.out; omega); intro v766 w52 ho hb hg hat; rw [← Ny765.out] at ho; have _ := ra (Kd.V_afterv (ok := (fun k_ => ((P0_ k_ ∨ P1_2_ k_) ∨ w.heap.size ≤ k_) ∧ k_ ≠ gb732)) (by (with_reducible repeat (first | apply Kd.V_alloc | apply Kd.V_drewN | apply Kd.V_drew)); exact HO_0.out) hg hat); have _ := ra (Kd.V_afterv (ok := (fun k_ => ((P0_ k_ ∨ P1_2_ k_) ∨ w.heap.size ≤ k_) ∧ k_ ≠ gb732)) (by (with_reducible repeat (first | apply Kd.V_alloc | apply Kd.V_drewN | apply Kd.V_drew)); exact HO_733002.out) hg hat); have _ := ra (blk_grown (g := gb732) (o := .cells #[.bool a1_0, .string a1_1, .slice A1_2 l1_2.length c1_2] 54 (0, 0)) (bk BK732) hg (Kd.N_ne HO763.out BK732.out (by decide))); have _ := ra (Kd.V_afterv (ok := (fun k_ => ((P0_ k_ ∨ P1_2_ k_) ∨ w.heap.size ≤ k_) ∧ k_ ≠ gb732)) (by (with_reducible repeat (first | apply Kd.V_alloc | apply Kd.V_drewN | apply Kd.V_drew)); exact HL764_1.out) hg hat); have _ := ra (hb); have _ := ra (ho); clear HO_0 HO_733002 BK732 HL764_1 HB HO763; rename_i HO_0 HO_733002 BK732 HL764_1 HB HO767; clear ho hb hg hat))
                      repeat (go_quiet (first | ((with_reducible refine gate_builtin (b := .append) (xs := #[.tmp 74, .tmp 77]) rfl ?_); (try (refine gate_guard (by rfl) ?_; dsimp only)); at_builtin; refine Kd.N_append k40 (w0 := w) w.heap.size rfl (.tmp 74) (.tmp 77) 26 40 (.agg #[(.string ⟨#[]⟩), (.slice none 0 0)]) 40 rfl Try.underlying26 info40 rfl (by decide) (by omega) u7 x7_4 (⟨a1_1, l1_2⟩ : S40) [.string a1_1, .slice A1_2 l1_2.length c1_2] (fun k_ => ((P0_ k_ ∨ P1_2_ k_) ∨ w.heap.size ≤ k_) ∧ k_ ≠ gb732) (fun k_ => ((fun k_ => ((P0_ k_ ∨ P1_2_ k_) ∨ w.heap.size ≤ k_) ∧ k_ ≠ gb732)) k_ ∧ some k_ ≠ (u7 : Value).ownBlock) rfl rfl ?aP (fun _ hk => hk) ?aF ?aO ?aB ?aS ?aL ?_; (case aP => exact (k40_mkF _ _ (⟨a1_1, l1_2⟩ : S40) (Kd.V_reads' (Kd.V_mono (ok' := (fun k_ => ((fun k_ => ((P0_ k_ ∨ P1_2_ k_) ∨ w.heap.size ≤ k_) ∧ k_ ≠ gb732)) k_ ∧ some k_ ≠ (u7 : Value).ownBlock)) (HO_733002.out) (fun k_ hk => ⟨⟨hk.1, hk.2.2⟩, hk.2.1⟩))).2.1 (Kd.V_F (Kd.V_mono (ok' := (fun k_ => ((fun k_ => ((P0_ k_ ∨ P1_2_ k_) ∨ w.heap.size ≤ k_) ∧ k_ ≠ gb732)) k_ ∧ some k_ ≠ (u7 : Value).ownBlock)) (HO_733002.out) (fun k_ hk => ⟨⟨hk.1, hk.2.2⟩, hk.2.1⟩))))); (case aB => exact bq); (case aF => exact (fun k_ hk => ⟨(.inr (Nat.le_trans (below_size bq) hk)), Kd.freshB (g := gb732) (o := .cells #[.bool a1_0, .string a1_1, .slice A1_2 l1_2.length c1_2] 54 (0, 0)) (bk BK732) k_ hk⟩)); (case aO => exact (by (with_reducible repeat (first | apply Kd.N_alloc | apply Kd.N_drewN | apply Kd.N_drew)); exact HO_7.out)); (case aS => exact (below_size bq)); (case aL => have := LMc43.out; omega); intro v762 w51 ho hb hg hat; rw [← Ny761.out] at ho; have _ := ra (Kd.V_afterv (ok := (fun k_ => ((P0_ k_ ∨ P1_2_ k_) ∨ w.heap.size ≤ k_) ∧ k_ ≠ gb732)) (by (with_reducible repeat (first | apply Kd.V_alloc | apply Kd.V_drewN | apply Kd.V_drew)); exact Kd.V_mono HO_0.out (fun _ hk => ⟨⟨hk.1, hk.2.2⟩, hk.2.1⟩)) hg hat); have _ := ra (Kd.V_afterv (ok := (fun k_ => ((P0_ k_ ∨ P1_2_ k_) ∨ w.heap.size ≤ k_) ∧ k_ ≠ gb732)) (by (with_reducible repeat (first | apply Kd.V_alloc | apply Kd.V_drewN | apply Kd.V_drew)); exact Kd.V_mono HO_733002.out (fun _ hk => ⟨⟨hk.1, hk.2.2⟩, hk.2.1⟩)) hg hat); have _ := ra (blk_grown (g := gb732) (o := .cells #[.bool a1_0, .string a1_1, .slice A1_2 l1_2.length c1_2] 54 (0, 0)) (bk BK732) hg (Kd.N_ne HO_7.out BK732.out (by decide))); have _ := ra (hb); have _ := ra (ho); clear HO_0 HO_733002 BK732 HB HO_7; rename_i HO_0 HO_733002 BK732 HB HO763; clear ho hb hg hat; have p764 : 0 ≤ (x9_4 : Int) := od; have q764 : x9_4 < (l0.length : Int) := od; obtain ⟨ad764, A764_1, c764_1, e764, hx764_0, hx764_1, hl764_1, hi764_1⟩ := at_T40 (Kd.V_reads' HO_0.out).2.2 x9_4 p764 q764; cases e764; obtain ⟨ce764, hce764, hMe764, hcc764⟩ := Kd.V_get HO_0.out z40 x9_4 p764 (by first | exact q764 | exact od | (have e_ := (Kd.V_reads' HO_0.out).1; omega)); obtain ⟨ua764_1, uc764_1, rfl, ul764_1, ge764_1⟩ := k40_openF hMe764; have hv764_1 := hcc764 1 _ rfl; rw [add_field _ _ 1 (by omega)] at hv764_1; replace hv764_1 := Option.some.inj (hv764_1.symm.trans hx764_1); injection hv764_1 with hva_ hvn_ hvc_; rw [hva_] at ge764_1; rw [hvc_] at ul764_1; have HL764_1 := ra (show Kd.V k95 95 _ w.heap.size _ _ ((rd_T40 l0 x9_4).f1) from Kd.V_mk ul764_1 ge764_1); clear hva_ hvn_ hvc_ ge764_1 ul764_1; clear hcc764 hce764; have HR764_1 := Aside0.mk hi764_1; have HC764_1 := Aside0.mk hl764_1; clear hi764_1 hl764_1; replace p764 := eq_true p764; replace q764 := eq_true q764) | ((with_reducible refine gate_builtin (b := .append) (xs := #[.tmp 82, .tmp 87]) rfl ?_); (try (refine gate_guard (by rfl) ?_; dsimp only)); at_builtin; refine Kd.N_append k40 (w0 := w) w.heap.size rfl (.tmp 82) (.tmp 87) 26 40 (.agg #[(.string ⟨#[]⟩), (.slice none 0 0)]) 40 rfl Try.underlying26 info40 rfl (by decide) (by omega) v762 y761 (⟨(rd_T40 l0 x9_4).f0, (rd_T40 l0 x9_4).f1⟩ : S40) [.string ((rd_T40 l0 x9_4).f0), .slice A764_1 ((rd_T40 l0 x9_4).f1).length c764_1] (fun k_ => ((P0_ k_ ∨ P1_2_ k_) ∨ w.heap.size ≤ k_) ∧ k_ ≠ gb732) (fun k_ => ((fun k_ => ((P0_ k_ ∨ P1_2_ k_) ∨ w.heap.size ≤ k_) ∧ k_ ≠ gb732)) k_ ∧ some k_ ≠ (v762 : Value).ownBlock) rfl rfl ?aP (fun _ hk => hk) ?aF ?aO ?aB ?aS ?aL ?_; (case aP => exact (k40_mkF _ _ (⟨(rd_T40 l0 x9_4).f0, (rd_T40 l0 x9_4).f1⟩ : S40) (Kd.V_reads' (Kd.V_mono (ok' := (fun k_ => ((fun k_ => ((P0_ k_ ∨ P1_2_ k_) ∨ w.heap.size ≤ k_) ∧ k_ ≠ gb732)) k_ ∧ some k_ ≠ (v762 : Value).ownBlock)) (HL764_1.out) (fun k_ hk => ⟨⟨hk.1.1, hk.1.2⟩, hk.2⟩))).2.1 (Kd.V_F (Kd.V_mono (ok' := (fun k_ => ((fun k_ => ((P0_ k_ ∨ P1_2_ k_) ∨ w.heap.size ≤ k_) ∧ k_ ≠ gb732)) k_ ∧ some k_ ≠ (v762 : Value).ownBlock)) (HL764_1.out) (fun k_ hk => ⟨⟨hk.1.1, hk.1.2⟩, hk.2⟩))))); (case aB => exact bq); (case aF => exact (fun k_ hk => ⟨(.inr (Nat.le_trans (below_size bq) hk)), Kd.freshB (g := gb732) (o := .cells #[.bool a1_0, .string a1_1, .slice A1_2 l1_2.length c1_2] 54 (0, 0)) (bk BK732) k_ hk⟩)); (case aO => exact (by (with_reducible repeat (first | apply Kd.N_alloc | apply Kd.N_drewN | apply Kd.N_drew)); exact HO763.out)); (case aS => exact (below_size bq)); (case aL => have := LMc49.out; omega); intro v766 w52 ho hb hg hat; rw [← Ny765.out] at ho; have _ := ra (Kd.V_afterv (ok := (fun k_ => ((P0_ k_ ∨ P1_2_ k_) ∨ w.heap.size ≤ k_) ∧ k_ ≠ gb732)) (by (with_reducible repeat (first | apply Kd.V_alloc | apply Kd.V_drewN | apply Kd.V_drew)); exact HO_0.out) hg hat); have _ := ra (Kd.V_afterv (ok := (fun k_ => ((P0_ k_ ∨ P1_2_ k_) ∨ w.heap.size ≤ k_) ∧ k_ ≠ gb732)) (by (with_reducible repeat (first | apply Kd.V_alloc | apply Kd.V_drewN | apply Kd.V_drew)); exact HO_733002.out) hg hat); have _ := ra (blk_grown (g := gb732) (o := .cells #[.bool a1_0, .string a1_1, .slice A1_2 l1_2.length c1_2] 54 (0, 0)) (bk BK732) hg (Kd.N_ne HO763.out BK732.out (by decide))); have _ := ra (Kd.V_afterv (ok := (fun k_ => ((P0_ k_ ∨ P1_2_ k_) ∨ w.heap.size ≤ k_) ∧ k_ ≠ gb732)) (by (with_reducible repeat (first | apply Kd.V_alloc | apply Kd.V_drewN | apply Kd.V_drew)); exact HL764_1.out) hg hat); have _ := ra (hb); have _ := ra (ho); clear HO_0 HO_733002 BK732 HL764_1 HB HO763; rename_i HO_0 HO_733002 BK732 HL764_1 HB HO767; clear ho hb hg hat)); try go_wp2_with (first | ((with_reducible refine gate_builtin (b := .append) (xs := #[.tmp 74, .tmp 77]) rfl ?_); (try (refine gate_guard (by rfl) ?_; dsimp only)); at_builtin; refine Kd.N_append k40 (w0 := w) w.heap.size rfl (.tmp 74) (.tmp 77) 26 40 (.agg #[(.string ⟨#[]⟩), (.slice none 0 0)]) 40 rfl Try.underlying26 info40 rfl (by decide) (by omega) u7 x7_4 (⟨a1_1, l1_2⟩ : S40) [.string a1_1, .slice A1_2 l1_2.length c1_2] (fun k_ => ((P0_ k_ ∨ P1_2_ k_) ∨ w.heap.size ≤ k_) ∧ k_ ≠ gb732) (fun k_ => ((fun k_ => ((P0_ k_ ∨ P1_2_ k_) ∨ w.heap.size ≤ k_) ∧ k_ ≠ gb732)) k_ ∧ some k_ ≠ (u7 : Value).ownBlock) rfl rfl ?aP (fun _ hk => hk) ?aF ?aO ?aB ?aS ?aL ?_; (case aP => exact (k40_mkF _ _ (⟨a1_1, l1_2⟩ : S40) (Kd.V_reads' (Kd.V_mono (ok' := (fun k_ => ((fun k_ => ((P0_ k_ ∨ P1_2_ k_) ∨ w.heap.size ≤ k_) ∧ k_ ≠ gb732)) k_ ∧ some k_ ≠ (u7 : Value).ownBlock)) (HO_733002.out) (fun k_ hk => ⟨⟨hk.1, hk.2.2⟩, hk.2.1⟩))).2.1 (Kd.V_F (Kd.V_mono (ok' := (fun k_ => ((fun k_ => ((P0_ k_ ∨ P1_2_ k_) ∨ w.heap.size ≤ k_) ∧ k_ ≠ gb732)) k_ ∧ some k_ ≠ (u7 : Value).ownBlock)) (HO_733002.out) (fun k_ hk => ⟨⟨hk.1, hk.2.2⟩, hk.2.1⟩))))); (case aB => exact bq); (case aF => exact (fun k_ hk => ⟨(.inr (Nat.le_trans (below_size bq) hk)), Kd.freshB (g := gb732) (o := .cells #[.bool a1_0, .string a1_1, .slice A1_2 l1_2.length c1_2] 54 (0, 0)) (bk BK732) k_ hk⟩)); (case aO => exact (by (with_reducible repeat (first | apply Kd.N_alloc | apply Kd.N_drewN | apply Kd.N_drew)); exact HO_7.out)); (case aS => exact (below_size bq)); (case aL => have := LMc43.out; omega); intro v762 w51 ho hb hg hat; rw [← Ny761.out] at ho; have _ := ra (Kd.V_afterv (ok := (fun k_ => ((P0_ k_ ∨ P1_2_ k_) ∨ w.heap.size ≤ k_) ∧ k_ ≠ gb732)) (by (with_reducible repeat (first | apply Kd.V_alloc | apply Kd.V_drewN | apply Kd.V_drew)); exact Kd.V_mono HO_0.out (fun _ hk => ⟨⟨hk.1, hk.2.2⟩, hk.2.1⟩)) hg hat); have _ := ra (Kd.V_afterv (ok := (fun k_ => ((P0_ k_ ∨ P1_2_ k_) ∨ w.heap.size ≤ k_) ∧ k_ ≠ gb732)) (by (with_reducible repeat (first | apply Kd.V_alloc | apply Kd.V_drewN | apply Kd.V_drew)); exact Kd.V_mono HO_733002.out (fun _ hk => ⟨⟨hk.1, hk.2.2⟩, hk.2.1⟩)) hg hat); have _ := ra (blk_grown (g := gb732) (o := .cells #[.bool a1_0, .string a1_1, .slice A1_2 l1_2.length c1_2] 54 (0, 0)) (bk BK732) hg (Kd.N_ne HO_7.out BK732.out (by decide))); have _ := ra (hb); have _ := ra (ho); clear HO_0 HO_733002 BK732 HB HO_7; rename_i HO_0 HO_733002 BK732 HB HO763; clear ho hb hg hat; have p764 : 0 ≤ (x9_4 : Int) := od; have q764 : x9_4 < (l0.length : Int) := od; obtain ⟨ad764, A764_1, c764_1, e764, hx764_0, hx764_1, hl764_1, hi764_1⟩ := at_T40 (Kd.V_reads' HO_0.out).2.2 x9_4 p764 q764; cases e764; obtain ⟨ce764, hce764, hMe764, hcc764⟩ := Kd.V_get HO_0.out z40 x9_4 p764 (by first | exact q764 | exact od | (have e_ := (Kd.V_reads' HO_0.out).1; omega)); obtain ⟨ua764_1, uc764_1, rfl, ul764_1, ge764_1⟩ := k40_openF hMe764; have hv764_1 := hcc764 1 _ rfl; rw [add_field _ _ 1 (by omega)] at hv764_1; replace hv764_1 := Option.some.inj (hv764_1.symm.trans hx764_1); injection hv764_1 with hva_ hvn_ hvc_; rw [hva_] at ge764_1; rw [hvc_] at ul764_1; have HL764_1 := ra (show Kd.V k95 95 _ w.heap.size _ _ ((rd_T40 l0 x9_4).f1) from Kd.V_mk ul764_1 ge764_1); clear hva_ hvn_ hvc_ ge764_1 ul764_1; clear hcc764 hce764; have HR764_1 := Aside0.mk hi764_1; have HC764_1 := Aside0.mk hl764_1; clear hi764_1 hl764_1; replace p764 := eq_true p764; replace q764 := eq_true q764) | ((with_reducible refine gate_builtin (b := .append) (xs := #[.tmp 82, .tmp 87]) rfl ?_); (try (refine gate_guard (by rfl) ?_; dsimp only)); at_builtin; refine Kd.N_append k40 (w0 := w) w.heap.size rfl (.tmp 82) (.tmp 87) 26 40 (.agg #[(.string ⟨#[]⟩), (.slice none 0 0)]) 40 rfl Try.underlying26 info40 rfl (by decide) (by omega) v762 y761 (⟨(rd_T40 l0 x9_4).f0, (rd_T40 l0 x9_4).f1⟩ : S40) [.string ((rd_T40 l0 x9_4).f0), .slice A764_1 ((rd_T40 l0 x9_4).f1).length c764_1] (fun k_ => ((P0_ k_ ∨ P1_2_ k_) ∨ w.heap.size ≤ k_) ∧ k_ ≠ gb732) (fun k_ => ((fun k_ => ((P0_ k_ ∨ P1_2_ k_) ∨ w.heap.size ≤ k_) ∧ k_ ≠ gb732)) k_ ∧ some k_ ≠ (v762 : Value).ownBlock) rfl rfl ?aP (fun _ hk => hk) ?aF ?aO ?aB ?aS ?aL ?_; (case aP => exact (k40_mkF _ _ (⟨(rd_T40 l0 x9_4).f0, (rd_T40 l0 x9_4).f1⟩ : S40) (Kd.V_reads' (Kd.V_mono (ok' := (fun k_ => ((fun k_ => ((P0_ k_ ∨ P1_2_ k_) ∨ w.heap.size ≤ k_) ∧ k_ ≠ gb732)) k_ ∧ some k_ ≠ (v762 : Value).ownBlock)) (HL764_1.out) (fun k_ hk => ⟨⟨hk.1.1, hk.1.2⟩, hk.2⟩))).2.1 (Kd.V_F (Kd.V_mono (ok' := (fun k_ => ((fun k_ => ((P0_ k_ ∨ P1_2_ k_) ∨ w.heap.size ≤ k_) ∧ k_ ≠ gb732)) k_ ∧ some k_ ≠ (v762 : Value).ownBlock)) (HL764_1.out) (fun k_ hk => ⟨⟨hk.1.1, hk.1.2⟩, hk.2⟩))))); (case aB => exact bq); (case aF => exact (fun k_ hk => ⟨(.inr (Nat.le_trans (below_size bq) hk)), Kd.freshB (g := gb732) (o := .cells #[.bool a1_0, .string a1_1, .slice A1_2 l1_2.length c1_2] 54 (0, 0)) (bk BK732) k_ hk⟩)); (case aO => exact (by (with_reducible repeat (first | apply Kd.N_alloc | apply Kd.N_drewN | apply Kd.N_drew)); exact HO763.out)); (case aS => exact (below_size bq)); (case aL => have := LMc49.out; omega); intro v766 w52 ho hb hg hat; rw [← Ny765.out] at ho; have _ := ra (Kd.V_afterv (ok := (fun k_ => ((P0_ k_ ∨ P1_2_ k_) ∨ w.heap.size ≤ k_) ∧ k_ ≠ gb732)) (by (with_reducible repeat (first | apply Kd.V_alloc | apply Kd.V_drewN | apply Kd.V_drew)); exact HO_0.out) hg hat); have _ := ra (Kd.V_afterv (ok := (fun k_ => ((P0_ k_ ∨ P1_2_ k_) ∨ w.heap.size ≤ k_) ∧ k_ ≠ gb732)) (by (with_reducible repeat (first | apply Kd.V_alloc | apply Kd.V_drewN | apply Kd.V_drew)); exact HO_733002.out) hg hat); have _ := ra (blk_grown (g := gb732) (o := .cells #[.bool a1_0, .string a1_1, .slice A1_2 l1_2.length c1_2] 54 (0, 0)) (bk BK732) hg (Kd.N_ne HO763.out BK732.out (by decide))); have _ := ra (Kd.V_afterv (ok := (fun k_ => ((P0_ k_ ∨ P1_2_ k_) ∨ w.heap.size ≤ k_) ∧ k_ ≠ gb732)) (by (with_reducible repeat (first | apply Kd.V_alloc | apply Kd.V_drewN | apply Kd.V_drew)); exact HL764_1.out) hg hat); have _ := ra (hb); have _ := ra (ho); clear HO_0 HO_733002 BK732 HL764_1 HB HO763; rename_i HO_0 HO_733002 BK732 HL764_1 HB HO767; clear ho hb hg hat)))
                      go_roundg kj37
                      case measure => have := HJ4.out; have := HJ16.out; have := HJ24.out; have := HK4.out; have := HJ37.out; omega
                      case rel => exact ⟨(y765), (true), (wrap64 (x9_4 + 1)), rs, rs, H', ⟨by have := HJ4.out; have := HJ16.out; have := HJ24.out; have := HK4.out; have := HJ37.out; omega⟩, ⟨by (with_reducible repeat (first | apply Kd.V_alloc | apply Kd.V_drewN | apply Kd.V_drew)); exact Kd.V_mono HO_0.out (fun _ hk => ⟨hk.1.1, ⟨hk.2, hk.1.2⟩⟩)⟩, ⟨by (with_reducible repeat (first | apply Kd.N_alloc | apply Kd.N_drewN | apply Kd.N_drew)); exact HO767.out⟩, ⟨by (with_reducible repeat (first | apply Kd.V_alloc | apply Kd.V_drewN | apply Kd.V_drew)); exact Kd.V_mono HO_733002.out (fun _ hk => ⟨hk.1.1, ⟨hk.2, hk.1.2⟩⟩)⟩, ⟨bk BK732⟩, ⟨bq⟩⟩
                     ·rw [if_neg c49] at H
                      exact absurd H (by simp)
                    ·rw [if_neg c48] at H
                     exact absurd H (by simp)
                   ·rw [if_neg c47] at H
                    exact absurd H (by simp)
                 ·rw [if_neg c43] at H
                  exact absurd H (by simp)
                ·replace c42 := Bool.eq_false_iff.mpr c42
                 subst c42
                 have H1 : (if x9_4 = t741 then (spec_ProbeHappen.l0 kj37 l0 t741 x7_4 x8_4 (wrap64 (x9_4 + 1)) a1_0 a1_1 l1_2) else (if 0 ≤ x9_4 then (if x9_4 < (l0.length : Int) then (if x7_4.length < 3518437208883 then (spec_ProbeHappen.l0 kj37 l0 t741 (x7_4 ++ [(⟨(rd_T40 l0 x9_4).f0, (rd_T40 l0 x9_4).f1⟩ : S40)]) x8_4 (wrap64 (x9_4 + 1)) a1_0 a1_1 l1_2) else (none)) else (none)) else (none))) = some (r1, r2) := by rw [if_neg (show ¬ (false = true) by decide)] at H; exact H
                 clear H
                 have H := H1
                 clear H1
                 by_cases c53 : x9_4 = t741
                 ·rw [if_pos c53] at H
                  have c53b0 : (x9_4 == t741) = true := beq_iff_eq.mpr c53
                  have c53b1 : (x9_4 != t741) = false := bne_eq_false_iff_eq.mpr c53
                  clear c53
                  have H' := Aside0.mk H
                  clear H
                  go_wp2
                  repeat (go_quiet (fail); try go_wp2)
                  go_roundg kj37
                  case measure => have := HJ4.out; have := HJ16.out; have := HJ24.out; have := HK4.out; have := HJ37.out; omega
                  case rel => exact ⟨(x7_4), (x8_4), (wrap64 (x9_4 + 1)), rs, rs, H', ⟨by have := HJ4.out; have := HJ16.out; have := HJ24.out; have := HK4.out; have := HJ37.out; omega⟩, ⟨by (with_reducible repeat (first | apply Kd.V_alloc | apply Kd.V_drewN | apply Kd.V_drew)); exact HO_0.out⟩, ⟨by (with_reducible repeat (first | apply Kd.N_alloc | apply Kd.N_drewN | apply Kd.N_drew)); exact HO_7.out⟩, ⟨by (with_reducible repeat (first | apply Kd.V_alloc | apply Kd.V_drewN | apply Kd.V_drew)); exact HO_733002.out⟩, ⟨bk BK732⟩, ⟨bq⟩⟩
                 ·rw [if_neg c53] at H
                  have c53b0 : (x9_4 == t741) = false := beq_eq_false_iff_ne.mpr c53
                  have c53b1 : (x9_4 != t741) = true := bne_iff_ne.mpr c53
                  by_cases c54 : 0 ≤ x9_4
                  ·rw [if_pos c54] at H
                   have c54b0 : decide (0 ≤ x9_4) = true := decide_eq_true c54
                   clear c54
                   by_cases c55 : x9_4 < (l0.length : Int)
                   ·rw [if_pos c55] at H
                    have c55b0 : decide (x9_4 < (l0.length : Int)) = true := decide_eq_true c55
                    clear c55
                    by_cases c56 : x7_4.length < 3518437208883
                    ·rw [if_pos c56] at H
                     have LMc56 := Aside0.mk c56
                     clear c56
                     obtain ⟨y769, hy_⟩ : ∃ y_ : List (S40), y_ = (x7_4 ++ [(⟨(rd_T40 l0 x9_4).f0, (rd_T40 l0 x9_4).f1⟩ : S40)]) := ⟨_, rfl⟩
                     replace H : (spec_ProbeHappen.l0 kj37 l0 t741 y769 x8_4 (wrap64 (x9_4 + 1)) a1_0 a1_1 l1_2) = some (r1, r2) := yh
                     have Ny769 := ra hy_
                     clear hy_
                     have H' := Aside0.mk H
                     clear H
                     have p768 : 0 ≤ (x9_4 : Int) := od
                     have q768 : x9_4 < (l0.length : Int) := od
                     obtain ⟨ad768, A768_1, c768_1, e768, hx768_0, hx768_1, hl768_1, hi768_1⟩ := at_T40 (Kd.V_reads' HO_0.out).2.2 x9_4 p768 q768
                     cases e768
                     obtain ⟨ce768, hce768, hMe768, hcc768⟩ := Kd.V_get HO_0.out z40 x9_4 p768 (by first | exact q768 | exact od | (have e_ := (Kd.V_reads' HO_0.out).1; omega))
                     obtain ⟨ua768_1, uc768_1, rfl, ul768_1, ge768_1⟩ := k40_openF hMe768
                     have hv768_1 := hcc768 1 _ rfl
                     rw [add_field _ _ 1 (by omega)] at hv768_1
                     replace hv768_1 := Option.some.inj (hv768_1.symm.trans hx768_1)
                     injection hv768_1 with hva_ hvn_ hvc_
                     rw [hva_] at ge768_1
                     rw [hvc_] at ul768_1
                     have HL768_1 := ra (show Kd.V k95 95 _ w.heap.size _ _ ((rd_T40 l0 x9_4).f1) from Kd.V_mk ul768_1 ge768_1)
                     clear hva_ hvn_ hvc_ ge768_1 ul768_1
                     clear hcc768 hce768
                     have HR768_1 := Aside0.mk hi768_1
                     have HC768_1 := Aside0.mk hl768_1
                     clear hi768_1 hl768_1
                     replace p768 := eq_true p768
                     replace q768 := eq_true q768
                     go_wp2_with (first | ((with_reducible refine gate_builtin (b := .append) (xs := #[.tmp 82, .tmp 87]) rfl ?_); (try (refine gate_guard (by rfl) ?_; dsimp only)); at_builtin; refine Kd.N_append k40 (w0 := w) w.heap.size rfl (.tmp 82) (.tmp 87) 26 40 (.agg #[(.string ⟨#[]⟩), (.slice none 0 0)]) 40 rfl Try.underlying26 info40 rfl (by decide) (by omega) u7 x7_4 (⟨(rd_T40 l0 x9_4).f0, (rd_T40 l0 x9_4).f1⟩ : S40) [.string ((rd_T40 l0 x9_4).f0), .slice A768_1 ((rd_T40 l0 x9_4).f1).length c768_1] (fun k_ => ((P0_ k_ ∨ P1_2_ k_) ∨ w.heap.size ≤ k_) ∧ k_ ≠ gb732) (fun k_ => ((fun k_ => ((P0_ k_ ∨ P1_2_ k_) ∨ w.heap.size ≤ k_) ∧ k_ ≠ gb732)) k_ ∧ some k_ ≠ (u7 : Value).ownBlock) rfl rfl ?aP (fun _ hk => hk) ?aF ?aO ?aB ?aS ?aL ?_; (case aP => exact (k40_mkF _ _ (⟨(rd_T40 l0 x9_4).f0, (rd_T40 l0 x9_4).f1⟩ : S40) (Kd.V_reads' (Kd.V_mono (ok' := (fun k_ => ((fun k_ => ((P0_ k_ ∨ P1_2_ k_) ∨ w.heap.size ≤ k_) ∧ k_ ≠ gb732)) k_ ∧ some k_ ≠ (u7 : Value).ownBlock)) (HL768_1.out) (fun k_ hk => ⟨⟨hk.1, hk.2.2⟩, hk.2.1⟩))).2.1 (Kd.V_F (Kd.V_mono (ok' := (fun k_ => ((fun k_ => ((P0_ k_ ∨ P1_2_ k_) ∨ w.heap.size ≤ k_) ∧ k_ ≠ gb732)) k_ ∧ some k_ ≠ (u7 : Value).ownBlock)) (HL768_1.out) (fun k_ hk => ⟨⟨hk.1, hk.2.2⟩, hk.2.1⟩))))); (case aB => exact bq); (case aF => exact (fun k_ hk => ⟨(.inr (Nat.le_trans (below_size bq) hk)), Kd.freshB (g := gb732) (o := .cells #[.bool a1_0, .string a1_1, .slice A1_2 l1_2.length c1_2] 54 (0, 0)) (bk BK732) k_ hk⟩)); (case aO => exact (by (with_reducible repeat (first | apply Kd.N_alloc | apply Kd.N_drewN | apply Kd.N_drew)); exact HO_7.out)); (case aS => exact (below_size bq)); (case aL => have := LMc56.out; omega); intro v770 w57 ho hb hg hat; rw [← Ny769.out] at ho; have _ := ra (Kd.V_afterv (ok := (fun k_ => ((P0_ k_ ∨ P1_2_ k_) ∨ w.heap.size ≤ k_) ∧ k_ ≠ gb732)) (by (with_reducible repeat (first | apply Kd.V_alloc | apply Kd.V_drewN | apply Kd.V_drew)); exact Kd.V_mono HO_0.out (fun _ hk => ⟨⟨hk.1, hk.2.2⟩, hk.2.1⟩)) hg hat); have _ := ra (Kd.V_afterv (ok := (fun k_ => ((P0_ k_ ∨ P1_2_ k_) ∨ w.heap.size ≤ k_) ∧ k_ ≠ gb732)) (by (with_reducible repeat (first | apply Kd.V_alloc | apply Kd.V_drewN | apply Kd.V_drew)); exact Kd.V_mono HO_733002.out (fun _ hk => ⟨⟨hk.1, hk.2.2⟩, hk.2.1⟩)) hg hat); have _ := ra (blk_grown (g := gb732) (o := .cells #[.bool a1_0, .string a1_1, .slice A1_2 l1_2.length c1_2] 54 (0, 0)) (bk BK732) hg (Kd.N_ne HO_7.out BK732.out (by decide))); have _ := ra (Kd.V_afterv (ok := (fun k_ => ((P0_ k_ ∨ P1_2_ k_) ∨ w.heap.size ≤ k_) ∧ k_ ≠ gb732)) (by (with_reducible repeat (first | apply Kd.V_alloc | apply Kd.V_drewN | apply Kd.V_drew)); exact Kd.V_mono HL768_1.out (fun _ hk => ⟨⟨hk.1, hk.2.2⟩, hk.2.1⟩)) hg hat); have _ := ra (hb); have _ := ra (ho); clear HO_0 HO_733002 BK732 HL768_1 HB HO_7; rename_i HO_0 HO_733002 BK732 HL768_1 HB HO771; clear ho hb hg hat))
                     repeat (go_quiet (first | ((with_reducible refine gate_builtin (b := .append) (xs := #[.tmp 82, .tmp 87]) rfl ?_); (try (refine gate_guard (by rfl) ?_; dsimp only)); at_builtin; refine Kd.N_append k40 (w0 := w) w.heap.size rfl (.tmp 82) (.tmp 87) 26 40 (.agg #[(.string ⟨#[]⟩), (.slice none 0 0)]) 40 rfl Try.underlying26 info40 rfl (by decide) (by omega) u7 x7_4 (⟨(rd_T40 l0 x9_4).f0, (rd_T40 l0 x9_4).f1⟩ : S40) [.string ((rd_T40 l0 x9_4).f0), .slice A768_1 ((rd_T40 l0 x9_4).f1).length c768_1] (fun k_ => ((P0_ k_ ∨ P1_2_ k_) ∨ w.heap.size ≤ k_) ∧ k_ ≠ gb732) (fun k_ => ((fun k_ => ((P0_ k_ ∨ P1_2_ k_) ∨ w.heap.size ≤ k_) ∧ k_ ≠ gb732)) k_ ∧ some k_ ≠ (u7 : Value).ownBlock) rfl rfl ?aP (fun _ hk => hk) ?aF ?aO ?aB ?aS ?aL ?_; (case aP => exact (k40_mkF _ _ (⟨(rd_T40 l0 x9_4).f0, (rd_T40 l0 x9_4).f1⟩ : S40) (Kd.V_reads' (Kd.V_mono (ok' := (fun k_ => ((fun k_ => ((P0_ k_ ∨ P1_2_ k_) ∨ w.heap.size ≤ k_) ∧ k_ ≠ gb732)) k_ ∧ some k_ ≠ (u7 : Value).ownBlock)) (HL768_1.out) (fun k_ hk => ⟨⟨hk.1, hk.2.2⟩, hk.2.1⟩))).2.1 (Kd.V_F (Kd.V_mono (ok' := (fun k_ => ((fun k_ => ((P0_ k_ ∨ P1_2_ k_) ∨ w.heap.size ≤ k_) ∧ k_ ≠ gb732)) k_ ∧ some k_ ≠ (u7 : Value).ownBlock)) (HL768_1.out) (fun k_ hk => ⟨⟨hk.1, hk.2.2⟩, hk.2.1⟩))))); (case aB => exact bq); (case aF => exact (fun k_ hk => ⟨(.inr (Nat.le_trans (below_size bq) hk)), Kd.freshB (g := gb732) (o := .cells #[.bool a1_0, .string a1_1, .slice A1_2 l1_2.length c1_2] 54 (0, 0)) (bk BK732) k_ hk⟩)); (case aO => exact (by (with_reducible repeat (first | apply Kd.N_alloc | apply Kd.N_drewN | apply Kd.N_drew)); exact HO_7.out)); (case aS => exact (below_size bq)); (case aL => have := LMc56.out; omega); intro v770 w57 ho hb hg hat; rw [← Ny769.out] at ho; have _ := ra (Kd.V_afterv (ok := (fun k_ => ((P0_ k_ ∨ P1_2_ k_) ∨ w.heap.size ≤ k_) ∧ k_ ≠ gb732)) (by (with_reducible repeat (first | apply Kd.V_alloc | apply Kd.V_drewN | apply Kd.V_drew)); exact Kd.V_mono HO_0.out (fun _ hk => ⟨⟨hk.1, hk.2.2⟩, hk.2.1⟩)) hg hat); have _ := ra (Kd.V_afterv (ok := (fun k_ => ((P0_ k_ ∨ P1_2_ k_) ∨ w.heap.size ≤ k_) ∧ k_ ≠ gb732)) (by (with_reducible repeat (first | apply Kd.V_alloc | apply Kd.V_drewN | apply Kd.V_drew)); exact Kd.V_mono HO_733002.out (fun _ hk => ⟨⟨hk.1, hk.2.2⟩, hk.2.1⟩)) hg hat); have _ := ra (blk_grown (g := gb732) (o := .cells #[.bool a1_0, .string a1_1, .slice A1_2 l1_2.length c1_2] 54 (0, 0)) (bk BK732) hg (Kd.N_ne HO_7.out BK732.out (by decide))); have _ := ra (Kd.V_afterv (ok := (fun k_ => ((P0_ k_ ∨ P1_2_ k_) ∨ w.heap.size ≤ k_) ∧ k_ ≠ gb732)) (by (with_reducible repeat (first | apply Kd.V_alloc | apply Kd.V_drewN | apply Kd.V_drew)); exact Kd.V_mono HL768_1.out (fun _ hk => ⟨⟨hk.1, hk.2.2⟩, hk.2.1⟩)) hg hat); have _ := ra (hb); have _ := ra (ho); clear HO_0 HO_733002 BK732 HL768_1 HB HO_7; rename_i HO_0 HO_733002 BK732 HL768_1 HB HO771; clear ho hb hg hat)); try go_wp2_with (first | ((with_reducible refine gate_builtin (b := .append) (xs := #[.tmp 82, .tmp 87]) rfl ?_); (try (refine gate_guard (by rfl) ?_; dsimp only)); at_builtin; refine Kd.N_append k40 (w0 := w) w.heap.size rfl (.tmp 82) (.tmp 87) 26 40 (.agg #[(.string ⟨#[]⟩), (.slice none 0 0)]) 40 rfl Try.underlying26 info40 rfl (by decide) (by omega) u7 x7_4 (⟨(rd_T40 l0 x9_4).f0, (rd_T40 l0 x9_4).f1⟩ : S40) [.string ((rd_T40 l0 x9_4).f0), .slice A768_1 ((rd_T40 l0 x9_4).f1).length c768_1] (fun k_ => ((P0_ k_ ∨ P1_2_ k_) ∨ w.heap.size ≤ k_) ∧ k_ ≠ gb732) (fun k_ => ((fun k_ => ((P0_ k_ ∨ P1_2_ k_) ∨ w.heap.size ≤ k_) ∧ k_ ≠ gb732)) k_ ∧ some k_ ≠ (u7 : Value).ownBlock) rfl rfl ?aP (fun _ hk => hk) ?aF ?aO ?aB ?aS ?aL ?_; (case aP => exact (k40_mkF _ _ (⟨(rd_T40 l0 x9_4).f0, (rd_T40 l0 x9_4).f1⟩ : S40) (Kd.V_reads' (Kd.V_mono (ok' := (fun k_ => ((fun k_ => ((P0_ k_ ∨ P1_2_ k_) ∨ w.heap.size ≤ k_) ∧ k_ ≠ gb732)) k_ ∧ some k_ ≠ (u7 : Value).ownBlock)) (HL768_1.out) (fun k_ hk => ⟨⟨hk.1, hk.2.2⟩, hk.2.1⟩))).2.1 (Kd.V_F (Kd.V_mono (ok' := (fun k_ => ((fun k_ => ((P0_ k_ ∨ P1_2_ k_) ∨ w.heap.size ≤ k_) ∧ k_ ≠ gb732)) k_ ∧ some k_ ≠ (u7 : Value).ownBlock)) (HL768_1.out) (fun k_ hk => ⟨⟨hk.1, hk.2.2⟩, hk.2.1⟩))))); (case aB => exact bq); (case aF => exact (fun k_ hk => ⟨(.inr (Nat.le_trans (below_size bq) hk)), Kd.freshB (g := gb732) (o := .cells #[.bool a1_0, .string a1_1, .slice A1_2 l1_2.length c1_2] 54 (0, 0)) (bk BK732) k_ hk⟩)); (case aO => exact (by (with_reducible repeat (first | apply Kd.N_alloc | apply Kd.N_drewN | apply Kd.N_drew)); exact HO_7.out)); (case aS => exact (below_size bq)); (case aL => have := LMc56.out; omega); intro v770 w57 ho hb hg hat; rw [← Ny769.out] at ho; have _ := ra (Kd.V_afterv (ok := (fun k_ => ((P0_ k_ ∨ P1_2_ k_) ∨ w.heap.size ≤ k_) ∧ k_ ≠ gb732)) (by (with_reducible repeat (first | apply Kd.V_alloc | apply Kd.V_drewN | apply Kd.V_drew)); exact Kd.V_mono HO_0.out (fun _ hk => ⟨⟨hk.1, hk.2.2⟩, hk.2.1⟩)) hg hat); have _ := ra (Kd.V_afterv (ok := (fun k_ => ((P0_ k_ ∨ P1_2_ k_) ∨ w.heap.size ≤ k_) ∧ k_ ≠ gb732)) (by (with_reducible repeat (first | apply Kd.V_alloc | apply Kd.V_drewN | apply Kd.V_drew)); exact Kd.V_mono HO_733002.out (fun _ hk => ⟨⟨hk.1, hk.2.2⟩, hk.2.1⟩)) hg hat); have _ := ra (blk_grown (g := gb732) (o := .cells #[.bool a1_0, .string a1_1, .slice A1_2 l1_2.length c1_2] 54 (0, 0)) (bk BK732) hg (Kd.N_ne HO_7.out BK732.out (by decide))); have _ := ra (Kd.V_afterv (ok := (fun k_ => ((P0_ k_ ∨ P1_2_ k_) ∨ w.heap.size ≤ k_) ∧ k_ ≠ gb732)) (by (with_reducible repeat (first | apply Kd.V_alloc | apply Kd.V_drewN | apply Kd.V_drew)); exact Kd.V_mono HL768_1.out (fun _ hk => ⟨⟨hk.1, hk.2.2⟩, hk.2.1⟩)) hg hat); have _ := ra (hb); have _ := ra (ho); clear HO_0 HO_733002 BK732 HL768_1 HB HO_7; rename_i HO_0 HO_733002 BK732 HL768_1 HB HO771; clear ho hb hg hat)))
                     go_roundg kj37
                     case measure => have := HJ4.out; have := HJ16.out; have := HJ24.out; have := HK4.out; have := HJ37.out; omega
                     case rel => exact ⟨(y769), (x8_4), (wrap64 (x9_4 + 1)), rs, rs, H', ⟨by have := HJ4.out; have := HJ16.out; have := HJ24.out; have := HK4.out; have := HJ37.out; omega⟩, ⟨by (with_reducible repeat (first | apply Kd.V_alloc | apply Kd.V_drewN | apply Kd.V_drew)); exact Kd.V_mono HO_0.out (fun _ hk => ⟨hk.1.1, ⟨hk.2, hk.1.2⟩⟩)⟩, ⟨by (with_reducible repeat (first | apply Kd.N_alloc | apply Kd.N_drewN | apply Kd.N_drew)); exact HO771.out⟩, ⟨by (with_reducible repeat (first | apply Kd.V_alloc | apply Kd.V_drewN | apply Kd.V_drew)); exact Kd.V_mono HO_733002.out (fun _ hk => ⟨hk.1.1, ⟨hk.2, hk.1.2⟩⟩)⟩, ⟨bk BK732⟩, ⟨bq⟩⟩
                    ·rw [if_neg c56] at H
                     exact absurd H (by simp)
                   ·rw [if_neg c55] at H
                    exact absurd H (by simp)
                  ·rw [if_neg c54] at H
                   exact absurd H (by simp)
             ·rw [if_neg c37] at H
              have c37b0 : decide (x9_4 < (l0.length : Int)) = false := decide_eq_false c37
              clear c37
              by_cases c58 : x8_4 = true
              ·subst c58
               replace H := it H rfl
               obtain ⟨t751, A59, H⟩ := bo H
               simp only [Option.some.injEq, Prod.mk.injEq] at H
               obtain ⟨rfl, rfl⟩ := H
               obtain ⟨Ao60, co60, eo60⟩ := Kd.N_slice HO_7.out
               subst eo60
               go_wp2_with (first | (go_at_call 62; (with_reducible refine (spec_l2List.calls k4 _ _ x7_4 t751 _ ?side1 ?side2 A59.out).mono ?_); (case side1 => repeat (first | exact (Kd.N_reads' HO_7.out).2.2 | (with_reducible refine Kd.C_alloc ?_ _) | (with_reducible refine Kd.C_drewN ?_ _) | (with_reducible refine Kd.C_drew ?_))); (case side2 => exact (Kd.N_reads' HO_7.out).2.1); rintro e w61 ⟨v752, rfl, ho0, hb⟩; have HS752 := ra (Kd.S_lower ho0 (below_size (by repeat (first | (with_reducible first | exact HB.out | apply below_alloc | apply pw_below_drewN | apply below_drew1 | refine below_set ?_ (Aside0.out (by assumption))) | exact HB.out)))); have _ := ra (Kd.V_elder' (by (with_reducible repeat (first | apply Kd.V_alloc | apply Kd.V_drewN | apply Kd.V_drew)); exact HO_0.out) (Kd.S_base ho0) hb); have _ := ra (Kd.N_elder' (by (with_reducible repeat (first | apply Kd.N_alloc | apply Kd.N_drewN | apply Kd.N_drew)); exact HO_7.out) (Kd.S_base ho0) hb); have _ := ra (Kd.V_elder' (by (with_reducible repeat (first | apply Kd.V_alloc | apply Kd.V_drewN | apply Kd.V_drew)); exact HO_733002.out) (Kd.S_base ho0) hb); have _ := ra (Kd.N_lower (Kd.N_mono (ok' := fun k_ => ((P0_ k_ ∨ P1_2_ k_) ∨ w.heap.size ≤ k_) ∧ some k_ ≠ (.slice Ao60 x7_4.length co60 : Value).ownBlock ∧ k_ ≠ gb732) (Kd.S_N (Kd.S_bound ho0)) (fun k_ hk_ => ⟨(.inr (Nat.le_trans (below_size bq) hk_.2.1)), (Kd.fresh' (Kd.N_lt (by (with_reducible repeat (first | apply Kd.N_alloc | apply Kd.N_drewN | apply Kd.N_drew)); exact HO_7.out)) k_ hk_.2.1), (Kd.freshB (g := gb732) (o := .cells #[.bool a1_0, .string a1_1, .slice A1_2 l1_2.length c1_2] 54 (0, 0)) (bk BK732) k_ hk_.2.1)⟩)) (below_size bq)); have _ := bb (bk BK732) hb; have _ := bs hb; clear HO_0 HO_7 HO_733002 BK732 HB; rename_i HO_0 HO_7 HO_733002 HO753 BK732 HB; (try clear hb); (try clear hb2); (try clear hk); (try clear hi); (try clear ho0)))
               repeat (go_quiet (first | (go_at_call 62; (with_reducible refine (spec_l2List.calls k4 _ _ x7_4 t751 _ ?side1 ?side2 A59.out).mono ?_); (case side1 => repeat (first | exact (Kd.N_reads' HO_7.out).2.2 | (with_reducible refine Kd.C_alloc ?_ _) | (with_reducible refine Kd.C_drewN ?_ _) | (with_reducible refine Kd.C_drew ?_))); (case side2 => exact (Kd.N_reads' HO_7.out).2.1); rintro e w61 ⟨v752, rfl, ho0, hb⟩; have HS752 := ra (Kd.S_lower ho0 (below_size (by repeat (first | (with_reducible first | exact HB.out | apply below_alloc | apply pw_below_drewN | apply below_drew1 | refine below_set ?_ (Aside0.out (by assumption))) | exact HB.out)))); have _ := ra (Kd.V_elder' (by (with_reducible repeat (first | apply Kd.V_alloc | apply Kd.V_drewN | apply Kd.V_drew)); exact HO_0.out) (Kd.S_base ho0) hb); have _ := ra (Kd.N_elder' (by (with_reducible repeat (first | apply Kd.N_alloc | apply Kd.N_drewN | apply Kd.N_drew)); exact HO_7.out) (Kd.S_base ho0) hb); have _ := ra (Kd.V_elder' (by (with_reducible repeat (first | apply Kd.V_alloc | apply Kd.V_drewN | apply Kd.V_drew)); exact HO_733002.out) (Kd.S_base ho0) hb); have _ := ra (Kd.N_lower (Kd.N_mono (ok' := fun k_ => ((P0_ k_ ∨ P1_2_ k_) ∨ w.heap.size ≤ k_) ∧ some k_ ≠ (.slice Ao60 x7_4.length co60 : Value).ownBlock ∧ k_ ≠ gb732) (Kd.S_N (Kd.S_bound ho0)) (fun k_ hk_ => ⟨(.inr (Nat.le_trans (below_size bq) hk_.2.1)), (Kd.fresh' (Kd.N_lt (by (with_reducible repeat (first | apply Kd.N_alloc | apply Kd.N_drewN | apply Kd.N_drew)); exact HO_7.out)) k_ hk_.2.1), (Kd.freshB (g := gb732) (o := .cells #[.bool a1_0, .string a1_1, .slice A1_2 l1_2.length c1_2] 54 (0, 0)) (bk BK732) k_ hk_.2.1)⟩)) (below_size bq)); have _ := bb (bk BK732) hb; have _ := bs hb; clear HO_0 HO_7 HO_733002 BK732 HB; rename_i HO_0 HO_7 HO_733002 HO753 BK732 HB; (try clear hb); (try clear hb2); (try clear hk); (try clear hi); (try clear ho0))); try go_wp2_with (first | (go_at_call 62; (with_reducible refine (spec_l2List.calls k4 _ _ x7_4 t751 _ ?side1 ?side2 A59.out).mono ?_); (case side1 => repeat (first | exact (Kd.N_reads' HO_7.out).2.2 | (with_reducible refine Kd.C_alloc ?_ _) | (with_reducible refine Kd.C_drewN ?_ _) | (with_reducible refine Kd.C_drew ?_))); (case side2 => exact (Kd.N_reads' HO_7.out).2.1); rintro e w61 ⟨v752, rfl, ho0, hb⟩; have HS752 := ra (Kd.S_lower ho0 (below_size (by repeat (first | (with_reducible first | exact HB.out | apply below_alloc | apply pw_below_drewN | apply below_drew1 | refine below_set ?_ (Aside0.out (by assumption))) | exact HB.out)))); have _ := ra (Kd.V_elder' (by (with_reducible repeat (first | apply Kd.V_alloc | apply Kd.V_drewN | apply Kd.V_drew)); exact HO_0.out) (Kd.S_base ho0) hb); have _ := ra (Kd.N_elder' (by (with_reducible repeat (first | apply Kd.N_alloc | apply Kd.N_drewN | apply Kd.N_drew)); exact HO_7.out) (Kd.S_base ho0) hb); have _ := ra (Kd.V_elder' (by (with_reducible repeat (first | apply Kd.V_alloc | apply Kd.V_drewN | apply Kd.V_drew)); exact HO_733002.out) (Kd.S_base ho0) hb); have _ := ra (Kd.N_lower (Kd.N_mono (ok' := fun k_ => ((P0_ k_ ∨ P1_2_ k_) ∨ w.heap.size ≤ k_) ∧ some k_ ≠ (.slice Ao60 x7_4.length co60 : Value).ownBlock ∧ k_ ≠ gb732) (Kd.S_N (Kd.S_bound ho0)) (fun k_ hk_ => ⟨(.inr (Nat.le_trans (below_size bq) hk_.2.1)), (Kd.fresh' (Kd.N_lt (by (with_reducible repeat (first | apply Kd.N_alloc | apply Kd.N_drewN | apply Kd.N_drew)); exact HO_7.out)) k_ hk_.2.1), (Kd.freshB (g := gb732) (o := .cells #[.bool a1_0, .string a1_1, .slice A1_2 l1_2.length c1_2] 54 (0, 0)) (bk BK732) k_ hk_.2.1)⟩)) (below_size bq)); have _ := bb (bk BK732) hb; have _ := bs hb; clear HO_0 HO_7 HO_733002 BK732 HB; rename_i HO_0 HO_7 HO_733002 HO753 BK732 HB; (try clear hb); (try clear hb2); (try clear hk); (try clear hi); (try clear ho0))))
               go_ret2
               exact ⟨_, re, by (with_reducible repeat (first | apply Kd.S_alloc | apply Kd.S_drewN | apply Kd.S_drew)); exact HS752.out, bq⟩
              ·replace c58 := Bool.eq_false_iff.mpr c58
               subst c58
               have H1 : (if x7_4.length < 3518437208883 then ((spec_l2List.f k4 (x7_4 ++ [(⟨a1_1, l1_2⟩ : S40)])).bind fun t757 => (some (t757, 0))) else (none)) = some (r1, r2) := by rw [if_neg (show ¬ (false = true) by decide)] at H; exact H
               clear H
               have H := H1
               clear H1
               by_cases c62 : x7_4.length < 3518437208883
               ·rw [if_pos c62] at H
                have LMc62 := Aside0.mk c62
                clear c62
                obtain ⟨y754, hy_⟩ : ∃ y_ : List (S40), y_ = (x7_4 ++ [(⟨a1_1, l1_2⟩ : S40)]) := ⟨_, rfl⟩
                replace H : ((spec_l2List.f k4 y754).bind fun t757 => (some (t757, 0))) = some (r1, r2) := yh
                have Ny754 := ra hy_
                clear hy_
                obtain ⟨t757, A63, H⟩ := bo H
                simp only [Option.some.injEq, Prod.mk.injEq] at H
                obtain ⟨rfl, rfl⟩ := H
                have hcz64_0 : wr.cell? ⟨gb732, 0, none⟩ = some (.bool a1_0) := (blk_cell BK732.out 0).trans rfl
                have hcz64_1 : wr.cell? ⟨gb732, 1, none⟩ = some (.string a1_1) := (blk_cell BK732.out 1).trans rfl
                have hcz64_2 : wr.cell? ⟨gb732, 2, none⟩ = some (.slice A1_2 l1_2.length c1_2) := (blk_cell BK732.out 2).trans rfl
                have hfz64_0 := blk_frozen BK732.out 0
                have hfz64_1 := blk_frozen BK732.out 1
                have hfz64_2 := blk_frozen BK732.out 2
                go_wp2_with (first | ((with_reducible refine gate_builtin (b := .append) (xs := #[.tmp 91, .tmp 94]) rfl ?_); (try (refine gate_guard (by rfl) ?_; dsimp only)); at_builtin; refine Kd.N_append k40 (w0 := w) w.heap.size rfl (.tmp 91) (.tmp 94) 26 40 (.agg #[(.string ⟨#[]⟩), (.slice none 0 0)]) 40 rfl Try.underlying26 info40 rfl (by decide) (by omega) u7 x7_4 (⟨a1_1, l1_2⟩ : S40) [.string a1_1, .slice A1_2 l1_2.length c1_2] (fun k_ => ((P0_ k_ ∨ P1_2_ k_) ∨ w.heap.size ≤ k_) ∧ k_ ≠ gb732) (fun k_ => ((fun k_ => ((P0_ k_ ∨ P1_2_ k_) ∨ w.heap.size ≤ k_) ∧ k_ ≠ gb732)) k_ ∧ some k_ ≠ (u7 : Value).ownBlock) rfl rfl ?aP (fun _ hk => hk) ?aF ?aO ?aB ?aS ?aL ?_; (case aP => exact (k40_mkF _ _ (⟨a1_1, l1_2⟩ : S40) (Kd.V_reads' (Kd.V_mono (ok' := (fun k_ => ((fun k_ => ((P0_ k_ ∨ P1_2_ k_) ∨ w.heap.size ≤ k_) ∧ k_ ≠ gb732)) k_ ∧ some k_ ≠ (u7 : Value).ownBlock)) (HO_733002.out) (fun k_ hk => ⟨⟨hk.1, hk.2.2⟩, hk.2.1⟩))).2.1 (Kd.V_F (Kd.V_mono (ok' := (fun k_ => ((fun k_ => ((P0_ k_ ∨ P1_2_ k_) ∨ w.heap.size ≤ k_) ∧ k_ ≠ gb732)) k_ ∧ some k_ ≠ (u7 : Value).ownBlock)) (HO_733002.out) (fun k_ hk => ⟨⟨hk.1, hk.2.2⟩, hk.2.1⟩))))); (case aB => exact bq); (case aF => exact (fun k_ hk => ⟨(.inr (Nat.le_trans (below_size bq) hk)), Kd.freshB (g := gb732) (o := .cells #[.bool a1_0, .string a1_1, .slice A1_2 l1_2.length c1_2] 54 (0, 0)) (bk BK732) k_ hk⟩)); (case aO => exact (by (with_reducible repeat (first | apply Kd.N_alloc | apply Kd.N_drewN | apply Kd.N_drew)); exact HO_7.out)); (case aS => exact (below_size bq)); (case aL => have := LMc62.out; omega); intro v755 w65 ho hb hg hat; rw [← Ny754.out] at ho; have _ := ra (Kd.V_afterv (ok := (fun k_ => ((P0_ k_ ∨ P1_2_ k_) ∨ w.heap.size ≤ k_) ∧ k_ ≠ gb732)) (by (with_reducible repeat (first | apply Kd.V_alloc | apply Kd.V_drewN | apply Kd.V_drew)); exact Kd.V_mono HO_0.out (fun _ hk => ⟨⟨hk.1, hk.2.2⟩, hk.2.1⟩)) hg hat); have _ := ra (Kd.V_afterv (ok := (fun k_ => ((P0_ k_ ∨ P1_2_ k_) ∨ w.heap.size ≤ k_) ∧ k_ ≠ gb732)) (by (with_reducible repeat (first | apply Kd.V_alloc | apply Kd.V_drewN | apply Kd.V_drew)); exact Kd.V_mono HO_733002.out (fun _ hk => ⟨⟨hk.1, hk.2.2⟩, hk.2.1⟩)) hg hat); have _ := ra (blk_grown (g := gb732) (o := .cells #[.bool a1_0, .string a1_1, .slice A1_2 l1_2.length c1_2] 54 (0, 0)) (bk BK732) hg (Kd.N_ne HO_7.out BK732.out (by decide))); have _ := ra (hb); have _ := ra (ho); clear HO_0 HO_733002 BK732 HB HO_7; rename_i HO_0 HO_733002 BK732 HB HO756; clear ho hb hg hat; obtain ⟨Ao66, co66, eo66⟩ := Kd.N_slice HO756.out; subst eo66) | (go_at_call 62; (with_reducible refine (spec_l2List.calls k4 _ _ y754 t757 _ ?side1 ?side2 A63.out).mono ?_); (case side1 => repeat (first | exact (Kd.N_reads' HO756.out).2.2 | (with_reducible refine Kd.C_alloc ?_ _) | (with_reducible refine Kd.C_drewN ?_ _) | (with_reducible refine Kd.C_drew ?_))); (case side2 => exact (Kd.N_reads' HO756.out).2.1); rintro e w67 ⟨v758, rfl, ho0, hb⟩; have HS758 := ra (Kd.S_lower ho0 (below_size (by repeat (first | (with_reducible first | exact HB.out | apply below_alloc | apply pw_below_drewN | apply below_drew1 | refine below_set ?_ (Aside0.out (by assumption))) | exact HB.out)))); have _ := ra (Kd.V_elder' (by (with_reducible repeat (first | apply Kd.V_alloc | apply Kd.V_drewN | apply Kd.V_drew)); exact HO_0.out) (Kd.S_base ho0) hb); have _ := ra (Kd.V_elder' (by (with_reducible repeat (first | apply Kd.V_alloc | apply Kd.V_drewN | apply Kd.V_drew)); exact HO_733002.out) (Kd.S_base ho0) hb); have _ := ra (Kd.N_elder' (by (with_reducible repeat (first | apply Kd.N_alloc | apply Kd.N_drewN | apply Kd.N_drew)); exact HO756.out) (Kd.S_base ho0) hb); have _ := ra (Kd.N_lower (Kd.N_mono (ok' := fun k_ => ((P0_ k_ ∨ P1_2_ k_) ∨ w.heap.size ≤ k_) ∧ some k_ ≠ (.slice Ao66 y754.length co66 : Value).ownBlock ∧ k_ ≠ gb732) (Kd.S_N (Kd.S_bound ho0)) (fun k_ hk_ => ⟨(.inr (Nat.le_trans (below_size bq) hk_.2.1)), (Kd.fresh' (Kd.N_lt (by (with_reducible repeat (first | apply Kd.N_alloc | apply Kd.N_drewN | apply Kd.N_drew)); exact HO756.out)) k_ hk_.2.1), (Kd.freshB (g := gb732) (o := .cells #[.bool a1_0, .string a1_1, .slice A1_2 l1_2.length c1_2] 54 (0, 0)) (bk BK732) k_ hk_.2.1)⟩)) (below_size bq)); have _ := bb (bk BK732) hb; have _ := bs hb; clear HO_0 HO_733002 HO756 BK732 HB; rename_i HO_0 HO_733002 HO756 HO759 BK732 HB; (try clear hb); (try clear hb2); (try clear hk); (try clear hi); (try clear ho0)))
                repeat (go_quiet (first | ((with_reducible refine gate_builtin (b := .append) (xs := #[.tmp 91, .tmp 94]) rfl ?_); (try (refine gate_guard (by rfl) ?_; dsimp only)); at_builtin; refine Kd.N_append k40 (w0 := w) w.heap.size rfl (.tmp 91) (.tmp 94) 26 40 (.agg #[(.string ⟨#[]⟩), (.slice none 0 0)]) 40 rfl Try.underlying26 info40 rfl (by decide) (by omega) u7 x7_4 (⟨a1_1, l1_2⟩ : S40) [.string a1_1, .slice A1_2 l1_2.length c1_2] (fun k_ => ((P0_ k_ ∨ P1_2_ k_) ∨ w.heap.size ≤ k_) ∧ k_ ≠ gb732) (fun k_ => ((fun k_ => ((P0_ k_ ∨ P1_2_ k_) ∨ w.heap.size ≤ k_) ∧ k_ ≠ gb732)) k_ ∧ some k_ ≠ (u7 : Value).ownBlock) rfl rfl ?aP (fun _ hk => hk) ?aF ?aO ?aB ?aS ?aL ?_; (case aP => exact (k40_mkF _ _ (⟨a1_1, l1_2⟩ : S40) (Kd.V_reads' (Kd.V_mono (ok' := (fun k_ => ((fun k_ => ((P0_ k_ ∨ P1_2_ k_) ∨ w.heap.size ≤ k_) ∧ k_ ≠ gb732)) k_ ∧ some k_ ≠ (u7 : Value).ownBlock)) (HO_733002.out) (fun k_ hk => ⟨⟨hk.1, hk.2.2⟩, hk.2.1⟩))).2.1 (Kd.V_F (Kd.V_mono (ok' := (fun k_ => ((fun k_ => ((P0_ k_ ∨ P1_2_ k_) ∨ w.heap.size ≤ k_) ∧ k_ ≠ gb732)) k_ ∧ some k_ ≠ (u7 : Value).ownBlock)) (HO_733002.out) (fun k_ hk => ⟨⟨hk.1, hk.2.2⟩, hk.2.1⟩))))); (case aB => exact bq); (case aF => exact (fun k_ hk => ⟨(.inr (Nat.le_trans (below_size bq) hk)), Kd.freshB (g := gb732) (o := .cells #[.bool a1_0, .string a1_1, .slice A1_2 l1_2.length c1_2] 54 (0, 0)) (bk BK732) k_ hk⟩)); (case aO => exact (by (with_reducible repeat (first | apply Kd.N_alloc | apply Kd.N_drewN | apply Kd.N_drew)); exact HO_7.out)); (case aS => exact (below_size bq)); (case aL => have := LMc62.out; omega); intro v755 w65 ho hb hg hat; rw [← Ny754.out] at ho; have _ := ra (Kd.V_afterv (ok := (fun k_ => ((P0_ k_ ∨ P1_2_ k_) ∨ w.heap.size ≤ k_) ∧ k_ ≠ gb732)) (by (with_reducible repeat (first | apply Kd.V_alloc | apply Kd.V_drewN | apply Kd.V_drew)); exact Kd.V_mono HO_0.out (fun _ hk => ⟨⟨hk.1, hk.2.2⟩, hk.2.1⟩)) hg hat); have _ := ra (Kd.V_afterv (ok := (fun k_ => ((P0_ k_ ∨ P1_2_ k_) ∨ w.heap.size ≤ k_) ∧ k_ ≠ gb732)) (by (with_reducible repeat (first | apply Kd.V_alloc | apply Kd.V_drewN | apply Kd.V_drew)); exact Kd.V_mono HO_733002.out (fun _ hk => ⟨⟨hk.1, hk.2.2⟩, hk.2.1⟩)) hg hat); have _ := ra (blk_grown (g := gb732) (o := .cells #[.bool a1_0, .string a1_1, .slice A1_2 l1_2.length c1_2] 54 (0, 0)) (bk BK732) hg (Kd.N_ne HO_7.out BK732.out (by decide))); have _ := ra (hb); have _ := ra (ho); clear HO_0 HO_733002 BK732 HB HO_7; rename_i HO_0 HO_733002 BK732 HB HO756; clear ho hb hg hat; obtain ⟨Ao66, co66, eo66⟩ := Kd.N_slice HO756.out; subst eo66) | (go_at_call 62; (with_reducible refine (spec_l2List.calls k4 _ _ y754 t757 _ ?side1 ?side2 A63.out).mono ?_); (case side1 => repeat (first | exact (Kd.N_reads' HO756.out).2.2 | (with_reducible refine Kd.C_alloc ?_ _) | (with_reducible refine Kd.C_drewN ?_ _) | (with_reducible refine Kd.C_drew ?_))); (case side2 => exact (Kd.N_reads' HO756.out).2.1); rintro e w67 ⟨v758, rfl, ho0, hb⟩; have HS758 := ra (Kd.S_lower ho0 (below_size (by repeat (first | (with_reducible first | exact HB.out | apply below_alloc | apply pw_below_drewN | apply below_drew1 | refine below_set ?_ (Aside0.out (by assumption))) | exact HB.out)))); have _ := ra (Kd.V_elder' (by (with_reducible repeat (first | apply Kd.V_alloc | apply Kd.V_drewN | apply Kd.V_drew)); exact HO_0.out) (Kd.S_base ho0) hb); have _ := ra (Kd.V_elder' (by (with_reducible repeat (first | apply Kd.V_alloc | apply Kd.V_drewN | apply Kd.V_drew)); exact HO_733002.out) (Kd.S_base ho0) hb); have _ := ra (Kd.N_elder' (by (with_reducible repeat (first | apply Kd.N_alloc | apply Kd.N_drewN | apply Kd.N_drew)); exact HO756.out) (Kd.S_base ho0) hb); have _ := ra (Kd.N_lower (Kd.N_mono (ok' := fun k_ => ((P0_ k_ ∨ P1_2_ k_) ∨ w.heap.size ≤ k_) ∧ some k_ ≠ (.slice Ao66 y754.length co66 : Value).ownBlock ∧ k_ ≠ gb732) (Kd.S_N (Kd.S_bound ho0)) (fun k_ hk_ => ⟨(.inr (Nat.le_trans (below_size bq) hk_.2.1)), (Kd.fresh' (Kd.N_lt (by (with_reducible repeat (first | apply Kd.N_alloc | apply Kd.N_drewN | apply Kd.N_drew)); exact HO756.out)) k_ hk_.2.1), (Kd.freshB (g := gb732) (o := .cells #[.bool a1_0, .string a1_1, .slice A1_2 l1_2.length c1_2] 54 (0, 0)) (bk BK732) k_ hk_.2.1)⟩)) (below_size bq)); have _ := bb (bk BK732) hb; have _ := bs hb; clear HO_0 HO_733002 HO756 BK732 HB; rename_i HO_0 HO_733002 HO756 HO759 BK732 HB; (try clear hb); (try clear hb2); (try clear hk); (try clear hi); (try clear ho0))); try go_wp2_with (first | ((with_reducible refine gate_builtin (b := .append) (xs := #[.tmp 91, .tmp 94]) rfl ?_); (try (refine gate_guard (by rfl) ?_; dsimp only)); at_builtin; refine Kd.N_append k40 (w0 := w) w.heap.size rfl (.tmp 91) (.tmp 94) 26 40 (.agg #[(.string ⟨#[]⟩), (.slice none 0 0)]) 40 rfl Try.underlying26 info40 rfl (by decide) (by omega) u7 x7_4 (⟨a1_1, l1_2⟩ : S40) [.string a1_1, .slice A1_2 l1_2.length c1_2] (fun k_ => ((P0_ k_ ∨ P1_2_ k_) ∨ w.heap.size ≤ k_) ∧ k_ ≠ gb732) (fun k_ => ((fun k_ => ((P0_ k_ ∨ P1_2_ k_) ∨ w.heap.size ≤ k_) ∧ k_ ≠ gb732)) k_ ∧ some k_ ≠ (u7 : Value).ownBlock) rfl rfl ?aP (fun _ hk => hk) ?aF ?aO ?aB ?aS ?aL ?_; (case aP => exact (k40_mkF _ _ (⟨a1_1, l1_2⟩ : S40) (Kd.V_reads' (Kd.V_mono (ok' := (fun k_ => ((fun k_ => ((P0_ k_ ∨ P1_2_ k_) ∨ w.heap.size ≤ k_) ∧ k_ ≠ gb732)) k_ ∧ some k_ ≠ (u7 : Value).ownBlock)) (HO_733002.out) (fun k_ hk => ⟨⟨hk.1, hk.2.2⟩, hk.2.1⟩))).2.1 (Kd.V_F (Kd.V_mono (ok' := (fun k_ => ((fun k_ => ((P0_ k_ ∨ P1_2_ k_) ∨ w.heap.size ≤ k_) ∧ k_ ≠ gb732)) k_ ∧ some k_ ≠ (u7 : Value).ownBlock)) (HO_733002.out) (fun k_ hk => ⟨⟨hk.1, hk.2.2⟩, hk.2.1⟩))))); (case aB => exact bq); (case aF => exact (fun k_ hk => ⟨(.inr (Nat.le_trans (below_size bq) hk)), Kd.freshB (g := gb732) (o := .cells #[.bool a1_0, .string a1_1, .slice A1_2 l1_2.length c1_2] 54 (0, 0)) (bk BK732) k_ hk⟩)); (case aO => exact (by (with_reducible repeat (first | apply Kd.N_alloc | apply Kd.N_drewN | apply Kd.N_drew)); exact HO_7.out)); (case aS => exact (below_size bq)); (case aL => have := LMc62.out; omega); intro v755 w65 ho hb hg hat; rw [← Ny754.out] at ho; have _ := ra (Kd.V_afterv (ok := (fun k_ => ((P0_ k_ ∨ P1_2_ k_) ∨ w.heap.size ≤ k_) ∧ k_ ≠ gb732)) (by (with_reducible repeat (first | apply Kd.V_alloc | apply Kd.V_drewN | apply Kd.V_drew)); exact Kd.V_mono HO_0.out (fun _ hk => ⟨⟨hk.1, hk.2.2⟩, hk.2.1⟩)) hg hat); have _ := ra (Kd.V_afterv (ok := (fun k_ => ((P0_ k_ ∨ P1_2_ k_) ∨ w.heap.size ≤ k_) ∧ k_ ≠ gb732)) (by (with_reducible repeat (first | apply Kd.V_alloc | apply Kd.V_drewN | apply Kd.V_drew)); exact Kd.V_mono HO_733002.out (fun _ hk => ⟨⟨hk.1, hk.2.2⟩, hk.2.1⟩)) hg hat); have _ := ra (blk_grown (g := gb732) (o := .cells #[.bool a1_0, .string a1_1, .slice A1_2 l1_2.length c1_2] 54 (0, 0)) (bk BK732) hg (Kd.N_ne HO_7.out BK732.out (by decide))); have _ := ra (hb); have _ := ra (ho); clear HO_0 HO_733002 BK732 HB HO_7; rename_i HO_0 HO_733002 BK732 HB HO756; clear ho hb hg hat; obtain ⟨Ao66, co66, eo66⟩ := Kd.N_slice HO756.out; subst eo66) | (go_at_call 62; (with_reducible refine (spec_l2List.calls k4 _ _ y754 t757 _ ?side1 ?side2 A63.out).mono ?_); (case side1 => repeat (first | exact (Kd.N_reads' HO756.out).2.2 | (with_reducible refine Kd.C_alloc ?_ _) | (with_reducible refine Kd.C_drewN ?_ _) | (with_reducible refine Kd.C_drew ?_))); (case side2 => exact (Kd.N_reads' HO756.out).2.1); rintro e w67 ⟨v758, rfl, ho0, hb⟩; have HS758 := ra (Kd.S_lower ho0 (below_size (by repeat (first | (with_reducible first | exact HB.out | apply below_alloc | apply pw_below_drewN | apply below_drew1 | refine below_set ?_ (Aside0.out (by assumption))) | exact HB.out)))); have _ := ra (Kd.V_elder' (by (with_reducible repeat (first | apply Kd.V_alloc | apply Kd.V_drewN | apply Kd.V_drew)); exact HO_0.out) (Kd.S_base ho0) hb); have _ := ra (Kd.V_elder' (by (with_reducible repeat (first | apply Kd.V_alloc | apply Kd.V_drewN | apply Kd.V_drew)); exact HO_733002.out) (Kd.S_base ho0) hb); have _ := ra (Kd.N_elder' (by (with_reducible repeat (first | apply Kd.N_alloc | apply Kd.N_drewN | apply Kd.N_drew)); exact HO756.out) (Kd.S_base ho0) hb); have _ := ra (Kd.N_lower (Kd.N_mono (ok' := fun k_ => ((P0_ k_ ∨ P1_2_ k_) ∨ w.heap.size ≤ k_) ∧ some k_ ≠ (.slice Ao66 y754.length co66 : Value).ownBlock ∧ k_ ≠ gb732) (Kd.S_N (Kd.S_bound ho0)) (fun k_ hk_ => ⟨(.inr (Nat.le_trans (below_size bq) hk_.2.1)), (Kd.fresh' (Kd.N_lt (by (with_reducible repeat (first | apply Kd.N_alloc | apply Kd.N_drewN | apply Kd.N_drew)); exact HO756.out)) k_ hk_.2.1), (Kd.freshB (g := gb732) (o := .cells #[.bool a1_0, .string a1_1, .slice A1_2 l1_2.length c1_2] 54 (0, 0)) (bk BK732) k_ hk_.2.1)⟩)) (below_size bq)); have _ := bb (bk BK732) hb; have _ := bs hb; clear HO_0 HO_733002 HO756 BK732 HB; rename_i HO_0 HO_733002 HO756 HO759 BK732 HB; (try clear hb); (try clear hb2); (try clear hk); (try clear hi); (try clear ho0))))
                go_ret2
                exact ⟨_, re, by (with_reducible repeat (first | apply Kd.S_alloc | apply Kd.S_drewN | apply Kd.S_drew)); exact HS758.out, bq⟩
               ·rw [if_neg c62] at H
                exact absurd H (by simp)
 ·replace c4 := Bool.eq_false_iff.mpr c4
  subst c4
  have H1 : (some ((([] : List (S40))), 1)) = some (r1, r2) := by rw [if_neg (show ¬ (false = true) by decide)] at H; exact H
  clear H
  have H := H1
  clear H1
  obtain ⟨y734, hy_⟩ : ∃ y_ : List (S40), y_ = (([] : List (S40))) := ⟨_, rfl⟩
  replace H : (some (y734, 1)) = some (r1, r2) := yh
  have Ny734 := ra hy_
  clear hy_
  simp only [Option.some.injEq, Prod.mk.injEq] at H
  obtain ⟨rfl, rfl⟩ := H
  go_enter Try.func31, Try.ntmps31
  go_wp2_with (first | ((with_reducible refine gate_dst (N := 3) rfl ?_); (try (refine gate_guard (by rfl) ?_; dsimp only)); refine be 3 #[.bool a1_0, .string a1_1, .slice A1_2 l1_2.length c1_2] 54 ?_; intro gb732 hg w68 hbox hb; have _ := ra (Kd.V_below (Kd.V_elderB (by (with_reducible repeat (first | apply Kd.V_alloc | apply Kd.V_drewN | apply Kd.V_drew)); exact HO0.out) gb732 (Nat.le_of_eq hg.symm)) hb); have _ := ra (Kd.V_below (Kd.V_elderB (by (with_reducible repeat (first | apply Kd.V_alloc | apply Kd.V_drewN | apply Kd.V_drew)); exact HO1_2.out) gb732 (Nat.le_of_eq hg.symm)) hb); have _ := bs hb; have _ := ra (hbox); have _ := bz (w0 := w) hg; have _ := bz (w0 := w) hg; clear HO0 HO1_2 HB; rename_i HO0 HO1_2 HB BK732 GW732 GE732; clear hb hbox hg) | (go_at_call 27; (with_reducible refine (spec_ProbeSkyOk.calls k _ _ l0 false _ ?side1 ?side2 A3.out).mono ?_); (case side1 => repeat (first | exact (Kd.V_reads' HO0.out).2.2 | (with_reducible refine Kd.C_alloc ?_ _) | (with_reducible refine Kd.C_drewN ?_ _) | (with_reducible refine Kd.C_drew ?_))); (case side2 => exact (Kd.V_reads' HO0.out).2.1); rintro e w69 ⟨rfl, hb⟩; have _ := ra (Kd.V_below (by (with_reducible repeat (first | apply Kd.V_alloc | apply Kd.V_drewN | apply Kd.V_drew)); exact HO0.out) hb); have _ := ra (Kd.V_below (by (with_reducible repeat (first | apply Kd.V_alloc | apply Kd.V_drewN | apply Kd.V_drew)); exact HO1_2.out) hb); have _ := bb (bk BK732) hb; have _ := bs hb; clear HO0 HO1_2 BK732 HB; rename_i HO0 HO1_2 BK732 HB; (try clear hb); (try clear hb2); (try clear hk); (try clear hi)) | ((with_reducible refine gate_dst (N := 13) rfl ?_); (try (refine gate_guard (by rfl) ?_; dsimp only)); refine Kd.N_lit k40 _ 40 ?hg (N' := 13) ?hd (xs := ([] : List (S40))) (inner := []) (ok := (fun k_ => ((P0_ k_ ∨ P1_2_ k_) ∨ w.heap.size ≤ k_) ∧ k_ ≠ gb732)) (okp := (fun k_ => ((P0_ k_ ∨ P1_2_ k_) ∨ w.heap.size ≤ k_) ∧ k_ ≠ gb732)) ?hr ?hp (fun _ hk => hk) ((show ∀ k_, w69.heap.size ≤ k_ → (fun k_ => ((P0_ k_ ∨ P1_2_ k_) ∨ w.heap.size ≤ k_) ∧ k_ ≠ gb732) k_ from fun k_ hk => ⟨(.inr (Nat.le_trans (below_size bq) hk)), Kd.freshB (g := gb732) (o := .cells #[.bool a1_0, .string a1_1, .slice A1_2 l1_2.length c1_2] 54 (0, 0)) (bk BK732) k_ hk⟩) _ (Nat.le_refl _)) (Below.refl _ _) (Nat.le_refl _) (by simp) ?_; (case hd => rfl); (case hg => rfl); (case hr => first | (go_simp; done) | (go_simp; rfl)); (case hp => exact (Reps.none _ _)); intro v735 w70 ho71 hb hg_ hnew_; clear hg_ hnew_; (first | rw [← Ny734.out] at ho71 | (simp only [Int.reduceToNat] at ho71; rw [← Ny734.out] at ho71)); have _ := ra (Kd.V_elder' (by (with_reducible repeat (first | apply Kd.V_alloc | apply Kd.V_drewN | apply Kd.V_drew)); exact HO0.out) (Kd.N_base ho71) hb); have _ := ra (Kd.V_elder' (by (with_reducible repeat (first | apply Kd.V_alloc | apply Kd.V_drewN | apply Kd.V_drew)); exact HO1_2.out) (Kd.N_base ho71) hb); have _ := ra (Kd.N_lower ho71 (below_size bq)); have _ := bb (bk BK732) hb; have _ := bs hb; clear HO0 HO1_2 BK732 HB; rename_i HO0 HO1_2 HO736 BK732 HB; clear hb ho71))
  repeat (go_quiet (first | ((with_reducible refine gate_dst (N := 3) rfl ?_); (try (refine gate_guard (by rfl) ?_; dsimp only)); refine be 3 #[.bool a1_0, .string a1_1, .slice A1_2 l1_2.length c1_2] 54 ?_; intro gb732 hg w68 hbox hb; have _ := ra (Kd.V_below (Kd.V_elderB (by (with_reducible repeat (first | apply Kd.V_alloc | apply Kd.V_drewN | apply Kd.V_drew)); exact HO0.out) gb732 (Nat.le_of_eq hg.symm)) hb); have _ := ra (Kd.V_below (Kd.V_elderB (by (with_reducible repeat (first | apply Kd.V_alloc | apply Kd.V_drewN | apply Kd.V_drew)); exact HO1_2.out) gb732 (Nat.le_of_eq hg.symm)) hb); have _ := bs hb; have _ := ra (hbox); have _ := bz (w0 := w) hg; have _ := bz (w0 := w) hg; clear HO0 HO1_2 HB; rename_i HO0 HO1_2 HB BK732 GW732 GE732; clear hb hbox hg) | (go_at_call 27; (with_reducible refine (spec_ProbeSkyOk.calls k _ _ l0 false _ ?side1 ?side2 A3.out).mono ?_); (case side1 => repeat (first | exact (Kd.V_reads' HO0.out).2.2 | (with_reducible refine Kd.C_alloc ?_ _) | (with_reducible refine Kd.C_drewN ?_ _) | (with_reducible refine Kd.C_drew ?_))); (case side2 => exact (Kd.V_reads' HO0.out).2.1); rintro e w69 ⟨rfl, hb⟩; have _ := ra (Kd.V_below (by (with_reducible repeat (first | apply Kd.V_alloc | apply Kd.V_drewN | apply Kd.V_drew)); exact HO0.out) hb); have _ := ra (Kd.V_below (by (with_reducible repeat (first | apply Kd.V_alloc | apply Kd.V_drewN | apply Kd.V_drew)); exact HO1_2.out) hb); have _ := bb (bk BK732) hb; have _ := bs hb; clear HO0 HO1_2 BK732 HB; rename_i HO0 HO1_2 BK732 HB; (try clear hb); (try clear hb2); (try clear hk); (try clear hi)) | ((with_reducible refine gate_dst (N := 13) rfl ?_); (try (refine gate_guard (by rfl) ?_; dsimp only)); refine Kd.N_lit k40 _ 40 ?hg (N' := 13) ?hd (xs := ([] : List (S40))) (inner := []) (ok := (fun k_ => ((P0_ k_ ∨ P1_2_ k_) ∨ w.heap.size ≤ k_) ∧ k_ ≠ gb732)) (okp := (fun k_ => ((P0_ k_ ∨ P1_2_ k_) ∨ w.heap.size ≤ k_) ∧ k_ ≠ gb732)) ?hr ?hp (fun _ hk => hk) ((show ∀ k_, w69.heap.size ≤ k_ → (fun k_ => ((P0_ k_ ∨ P1_2_ k_) ∨ w.heap.size ≤ k_) ∧ k_ ≠ gb732) k_ from fun k_ hk => ⟨(.inr (Nat.le_trans (below_size bq) hk)), Kd.freshB (g := gb732) (o := .cells #[.bool a1_0, .string a1_1, .slice A1_2 l1_2.length c1_2] 54 (0, 0)) (bk BK732) k_ hk⟩) _ (Nat.le_refl _)) (Below.refl _ _) (Nat.le_refl _) (by simp) ?_; (case hd => rfl); (case hg => rfl); (case hr => first | (go_simp; done) | (go_simp; rfl)); (case hp => exact (Reps.none _ _)); intro v735 w70 ho71 hb hg_ hnew_; clear hg_ hnew_; (first | rw [← Ny734.out] at ho71 | (simp only [Int.reduceToNat] at ho71; rw [← Ny734.out] at ho71)); have _ := ra (Kd.V_elder' (by (with_reducible repeat (first | apply Kd.V_alloc | apply Kd.V_drewN | apply Kd.V_drew)); exact HO0.out) (Kd.N_base ho71) hb); have _ := ra (Kd.V_elder' (by (with_reducible repeat (first | apply Kd.V_alloc | apply Kd.V_drewN | apply Kd.V_drew)); exact HO1_2.out) (Kd.N_base ho71) hb); have _ := ra (Kd.N_lower ho71 (below_size bq)); have _ := bb (bk BK732) hb; have _ := bs hb; clear HO0 HO1_2 BK732 HB; rename_i HO0 HO1_2 HO736 BK732 HB; clear hb ho71)); try go_wp2_with (first | ((with_reducible refine gate_dst (N := 3) rfl ?_); (try (refine gate_guard (by rfl) ?_; dsimp only)); refine be 3 #[.bool a1_0, .string a1_1, .slice A1_2 l1_2.length c1_2] 54 ?_; intro gb732 hg w68 hbox hb; have _ := ra (Kd.V_below (Kd.V_elderB (by (with_reducible repeat (first | apply Kd.V_alloc | apply Kd.V_drewN | apply Kd.V_drew)); exact HO0.out) gb732 (Nat.le_of_eq hg.symm)) hb); have _ := ra (Kd.V_below (Kd.V_elderB (by (with_reducible repeat (first | apply Kd.V_alloc | apply Kd.V_drewN | apply Kd.V_drew)); exact HO1_2.out) gb732 (Nat.le_of_eq hg.symm)) hb); have _ := bs hb; have _ := ra (hbox); have _ := bz (w0 := w) hg; have _ := bz (w0 := w) hg; clear HO0 HO1_2 HB; rename_i HO0 HO1_2 HB BK732 GW732 GE732; clear hb hbox hg) | (go_at_call 27; (with_reducible refine (spec_ProbeSkyOk.calls k _ _ l0 false _ ?side1 ?side2 A3.out).mono ?_); (case side1 => repeat (first | exact (Kd.V_reads' HO0.out).2.2 | (with_reducible refine Kd.C_alloc ?_ _) | (with_reducible refine Kd.C_drewN ?_ _) | (with_reducible refine Kd.C_drew ?_))); (case side2 => exact (Kd.V_reads' HO0.out).2.1); rintro e w69 ⟨rfl, hb⟩; have _ := ra (Kd.V_below (by (with_reducible repeat (first | apply Kd.V_alloc | apply Kd.V_drewN | apply Kd.V_drew)); exact HO0.out) hb); have _ := ra (Kd.V_below (by (with_reducible repeat (first | apply Kd.V_alloc | apply Kd.V_drewN | apply Kd.V_drew)); exact HO1_2.out) hb); have _ := bb (bk BK732) hb; have _ := bs hb; clear HO0 HO1_2 BK732 HB; rename_i HO0 HO1_2 BK732 HB; (try clear hb); (try clear hb2); (try clear hk); (try clear hi)) | ((with_reducible refine gate_dst (N := 13) rfl ?_); (try (refine gate_guard (by rfl) ?_; dsimp only)); refine Kd.N_lit k40 _ 40 ?hg (N' := 13) ?hd (xs := ([] : List (S40))) (inner := []) (ok := (fun k_ => ((P0_ k_ ∨ P1_2_ k_) ∨ w.heap.size ≤ k_) ∧ k_ ≠ gb732)) (okp := (fun k_ => ((P0_ k_ ∨ P1_2_ k_) ∨ w.heap.size ≤ k_) ∧ k_ ≠ gb732)) ?hr ?hp (fun _ hk => hk) ((show ∀ k_, w69.heap.size ≤ k_ → (fun k_ => ((P0_ k_ ∨ P1_2_ k_) ∨ w.heap.size ≤ k_) ∧ k_ ≠ gb732) k_ from fun k_ hk => ⟨(.inr (Nat.le_trans (below_size bq) hk)), Kd.freshB (g := gb732) (o := .cells #[.bool a1_0, .string a1_1, .slice A1_2 l1_2.length c1_2] 54 (0, 0)) (bk BK732) k_ hk⟩) _ (Nat.le_refl _)) (Below.refl _ _) (Nat.le_refl _) (by simp) ?_; (case hd => rfl); (case hg => rfl); (case hr => first | (go_simp; done) | (go_simp; rfl)); (case hp => exact (Reps.none _ _)); intro v735 w70 ho71 hb hg_ hnew_; clear hg_ hnew_; (first | rw [← Ny734.out] at ho71 | (simp only [Int.reduceToNat] at ho71; rw [← Ny734.out] at ho71)); have _ := ra (Kd.V_elder' (by (with_reducible repeat (first | apply Kd.V_alloc | apply Kd.V_drewN | apply Kd.V_drew)); exact HO0.out) (Kd.N_base ho71) hb); have _ := ra (Kd.V_elder' (by (with_reducible repeat (first | apply Kd.V_alloc | apply Kd.V_drewN | apply Kd.V_drew)); exact HO1_2.out) (Kd.N_base ho71) hb); have _ := ra (Kd.N_lower ho71 (below_size bq)); have _ := bb (bk BK732) hb; have _ := bs hb; clear HO0 HO1_2 BK732 HB; rename_i HO0 HO1_2 HO736 BK732 HB; clear hb ho71)))
  go_ret2
  exact ⟨_, re, by (with_reducible repeat (first | apply Kd.S_alloc | apply Kd.S_drewN | apply Kd.S_drew)); have h_ := HO736.out; rw [Ny734.out] at h_ ⊢; exact Z.N_nil_S h_, bq⟩
end Go.Proofs.Ytdbomnhdpniigaa.PA
