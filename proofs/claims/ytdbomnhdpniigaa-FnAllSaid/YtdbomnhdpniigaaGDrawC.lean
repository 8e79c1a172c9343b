/- Contracts of the functions spec_l7Dec, spec_l2Sky, spec_l2AnySky, spec_DrawProbeAll. (Began as a print of the kit's tool.) -/
import Derived.Test.YtdbomnhdpniigaaPAd
import Derived.Test.YtdbomnhdpniigaaCx
import Derived.Test.YtdbomnhdpniigaaCz
import Derived.Test.YtdbomnhdpniigaaGDrawA
import Derived.Test.YtdbomnhdpniigaaGDrawB
namespace Go.Proofs.Ytdbomnhdpniigaa.PA
open Go.RowKit Go.Proofs.YtdbomnhdpniigaaW.PrintWords Go.Proofs.YtdbomnhdpniigaaW.PrintLast Go.Proofs.YtdbomnhdpniigaaW.PrintMore Go.Proofs.Ytdbomnhdpniigaa.Z
attribute [local go_sem] max2_int min2_int max_two min_two max_three min_three max_four min_four
set_option linter.unusedVariables false
set_option linter.unusedSimpArgs false
def spec_l7Dec.T3 : Bool × List (List Nat × List Nat) := (true, [([], []), ([0], [0]), ([1], [1]), ([], []), ([3], [3]), ([4], [4]), ([5], [5]), ([6], [6]), ([7], [7]), ([2, 8], [2, 8]), ([9, 2, 0, 1, 2, 3, 4, 5, 6, 7, 8, 9], [9])])
def spec_l7Dec.B3 : List Nat := [0, 1, 3, 0, 8, 24, 56, 120, 248, 511, 1023]
theorem spec_l7Dec.tab3 : rtab .any (opsOf Try.f107 3) = spec_l7Dec.T3 := by kernel_rfl
theorem spec_l7Dec.bits3 : waitsOk spec_l7Dec.T3.2 spec_l7Dec.B3 = true := by kernel_rfl
set_option maxHeartbeats 8000000 in
set_option maxRecDepth 100000 in
theorem spec_l7Dec.calls (k : Nat) : ∀ (a0 : Int) (r : ByteArray) (w : World) (h : spec_l7Dec.f k a0 = some r),
  Calls Try.prog 107 #[.int .i64 a0] w fun e w' => e = .returned (.string r) ∧ Below w.heap.size w w' := by
 induction k using Nat.strongRecOn with
 | _ k ih =>
 intro a0 r w h
 cases k with
 | zero => exact absurd h (by simp [spec_l7Dec.f])
 | succ k =>
 simp only [spec_l7Dec.f] at h
 have HB := ra (Below.refl w.heap.size w)
 have H : (if a0 < 10 then (some (strOfNums (([(wrap64 (48 + a0)) % 256] : List Int)))) else ((spec_l7Dec.f k (wrap64 (Int.tdiv a0 10))).bind fun t480 => ((some (([(wrap64 (48 + (Int.tmod a0 10))) % 256] : List Int) : List Int)).bind fun y481 => (if t480.size + (strOfNums y481).size ≤ 9223372036854775807 then (some (t480 ++ (strOfNums y481))) else (none))))) = some r := h
 clear h
 by_cases c2 : a0 < 10
 ·rw [if_pos c2] at H
  have c2b0 : decide (a0 < 10) = true := decide_eq_true c2
  clear c2
  obtain ⟨y477, hy_⟩ : ∃ y_ : List Int, y_ = (([(wrap64 (48 + a0)) % 256] : List Int)) := ⟨_, rfl⟩
  replace H : (some (strOfNums y477)) = some r := yh
  have Ny477 := ra hy_
  clear hy_
  obtain rfl := Option.some.inj H
  go_enter Try.func107, Try.ntmps107
  go_wp2_with (first | ((with_reducible refine gate_dst (N := 8) rfl ?_); refine Kd.R_lit (Kd.int .u8) _ 5 ?hg (N := 8) ?hd (xs := ([(wrap64 (48 + a0)) % 256] : List Int)) (inner := [.int .u8 ((wrap64 (48 + a0)) % 256)]) (ok := fun _ => True) (okp := fun _ => True) ?hr ?hp (fun _ hk => hk) trivial (Below.refl _ _) (Nat.le_refl _) (by simp) ?_; (case hd => rfl); (case hg => rfl); (case hr => first | (go_simp; done) | (go_simp; rfl)); (case hp => exact (Reps.one (show Kd.M (Kd.int .u8) _ _ _ ((wrap64 (48 + a0)) % 256) [.int .u8 ((wrap64 (48 + a0)) % 256)] from rfl) (Reps.none _ _))); intro v478 w3 ho4 hb hg_ hnew_; clear hg_ hnew_; (first | rw [← Ny477.out] at ho4 | (simp only [Int.reduceToNat] at ho4; rw [← Ny477.out] at ho4)); have _ := ra (Kd.R_lower ho4 (below_size bq)); have _ := bs hb; clear HB; rename_i HO479 HB; clear hb ho4; have hcv5 := own_string (P := Try.prog) Try.underlying45 Try.underlying5 Try.underlying9 (Kd.own_of_R HO479.out)))
  go_ret
  exact ⟨re, bq⟩
 ·rw [if_neg c2] at H
  have c2b0 : decide (a0 < 10) = false := decide_eq_false c2
  clear c2
  obtain ⟨t480, A6, H⟩ := bo H
  obtain ⟨y481, hy_⟩ : ∃ y_ : List Int, y_ = (([(wrap64 (48 + (Int.tmod a0 10))) % 256] : List Int)) := ⟨_, rfl⟩
  replace H : (if t480.size + (strOfNums y481).size ≤ 9223372036854775807 then (some (t480 ++ (strOfNums y481))) else (none)) = some r := yh
  have Ny481 := ra hy_
  clear hy_
  by_cases c7 : t480.size + (strOfNums y481).size ≤ 9223372036854775807
  ·rw [if_pos c7] at H
   have c7b0 := eq_true c7
   have c7b1 : decide (t480.size + (strOfNums y481).size ≤ 9223372036854775807) = true := decide_eq_true c7
   try have c7b2 : (9223372036854775807 < t480.size + (strOfNums y481).size) = False := eq_false (Nat.not_lt.2 c7)
   obtain rfl := Option.some.inj H
   go_enter Try.func107, Try.ntmps107
   try go_wp2
   have _ := ra (below_drew1 HB.out)
   clear HB
   rename_i HB
   refine start_ (n := 11) (S := fun w' => True) (ds := []) (bl 11 0) (by kernel_rfl) rfl rfl trivial (fun hHeld => ?_); refine with_tabW spec_l7Dec.tab3 spec_l7Dec.bits3 (fun HT_ HW_ => ?_)
   generalize w.drew = w8 at HB hHeld ⊢
   refine pu 0 10 (bl 11 1) ?_
   refine pu 1 11 (bl 11 3) ?_
   refine pu 3 13 (bl 11 11) ?_
   refine pu 4 14 (bl 11 27) ?_
   refine pu 5 15 (bl 11 59) ?_
   refine pu 6 16 (bl 11 123) ?_
   refine join_ (σ := Value) 2 #[true, true, true, true, true, true, true, true, true, false, false] (fun s_ => [(12, .string t480), (17, s_), (18, .string (strOfNums y481))]) (fun s_ w' => (Kd.R (Kd.int .u8) 5 w' w.heap.size (fun _ => True) s_ y481) ∧ (Below w.heap.size w w')) ?_ ?_
   rotate_left
   ·intro hCont
    refine two_ (i := 2) (j := 7) (Ni := some 12) (Nj := some 17) #[true, true, true, true, true, true, true, false, false, false, false] #[true, true, false, true, true, true, true, true, false, false, false] rfl rfl rfl rfl (two_of HT_.out (by kernel_rfl)) (by decide) (by decide) (fun K hK => ?_) (fun K hK => ?_)
    ·skip
     refine gs Try.func107 #[.int .i64 (wrap64 (Int.tdiv a0 10))] ?_
     with_reducible refine (ih k (by omega) (wrap64 (Int.tdiv a0 10)) t480 _ A6.out).mono ?_
     rintro e w9 ⟨rfl, hb⟩
     refine ⟨_, rfl, ?_⟩
     have _ := bs hb
     clear HB
     rename_i HB
     (try clear hb)
     (try clear hb2)
     (try clear hk)
     (try clear hi)
     refine hK.out _ _ trivial (fun hHeld => ?_)
     clear hK K
     refine nm 12 ?_
     refine oe 7 17 (bl 11 255) (fun K hK => ?_)
     refine Kd.R_lit_step (Kd.int .u8) _ 5 ?hg (N := 17) ?hd (xs := ([(wrap64 (48 + (Int.tmod a0 10))) % 256] : List Int)) (inner := [.int .u8 ((wrap64 (48 + (Int.tmod a0 10))) % 256)]) (ok := fun _ => True) (okp := fun _ => True) ?hr ?hp (fun _ hk => hk) trivial (Below.refl _ _) (Nat.le_refl _) (by simp) ?_; (case hd => rfl); (case hg => rfl); (case hr => first | (go_simp; done) | (go_simp; rfl)); (case hp => exact (Reps.one (show Kd.M (Kd.int .u8) _ _ _ ((wrap64 (48 + (Int.tmod a0 10))) % 256) [.int .u8 ((wrap64 (48 + (Int.tmod a0 10))) % 256)] from rfl) (Reps.none _ _)))
     intro v482 w10 ho11 hb hg_ hnew_
     clear hg_ hnew_
     (first | rw [← Ny481.out] at ho11 | (simp only [Int.reduceToNat] at ho11; rw [← Ny481.out] at ho11))
     have _ := ra (Kd.R_lower ho11 (below_size bq))
     have _ := bs hb
     clear HB
     rename_i HO483 HB
     clear hb ho11
     refine hK.out _ _ trivial (fun hHeld => ?_)
     clear hK K
     refine nm 17 ?_
     refine oe 8 18 (bl 11 511) (fun K hK => ?_)
     have hcv12 := own_string (P := Try.prog) Try.underlying45 Try.underlying5 Try.underlying9 (Kd.own_of_R HO483.out)
     refine value_ (w1 := ?_) (v := ?_) (by rfl) rfl ?_ ?_
     rotate_left 2
     ·go_simp
      constructor
      ·rfl
      ·rfl
     clear hcv12
     refine hK.out _ _ trivial (fun hHeld => ?_)
     clear hK K
     refine nm 18 ?_
     exact norm_ (by simp only [putAll, Act.put, List.setIfInBounds_toArray, List.set_cons_zero, List.set_cons_succ]) (hCont (v482) _ ⟨(rq HO483), bq⟩)
    ·skip
     refine Kd.R_lit_step (Kd.int .u8) _ 5 ?hg (N := 17) ?hd (xs := ([(wrap64 (48 + (Int.tmod a0 10))) % 256] : List Int)) (inner := [.int .u8 ((wrap64 (48 + (Int.tmod a0 10))) % 256)]) (ok := fun _ => True) (okp := fun _ => True) ?hr ?hp (fun _ hk => hk) trivial (Below.refl _ _) (Nat.le_refl _) (by simp) ?_; (case hd => rfl); (case hg => rfl); (case hr => first | (go_simp; done) | (go_simp; rfl)); (case hp => exact (Reps.one (show Kd.M (Kd.int .u8) _ _ _ ((wrap64 (48 + (Int.tmod a0 10))) % 256) [.int .u8 ((wrap64 (48 + (Int.tmod a0 10))) % 256)] from rfl) (Reps.none _ _)))
     intro v482 w9 ho10 hb hg_ hnew_
     clear hg_ hnew_
     (first | rw [← Ny481.out] at ho10 | (simp only [Int.reduceToNat] at ho10; rw [← Ny481.out] at ho10))
     have _ := ra (Kd.R_lower ho10 (below_size bq))
     have _ := bs hb
     clear HB
     rename_i HO483 HB
     clear hb ho10
     refine hK.out _ _ trivial (fun hHeld => ?_)
     clear hK K
     refine nm 17 ?_
     refine two_ (i := 2) (j := 8) (Ni := some 12) (Nj := some 18) #[true, true, true, true, true, true, true, true, false, false, false] #[true, true, false, true, true, true, true, true, true, false, false] rfl rfl rfl rfl (two_of HT_.out (by kernel_rfl)) (by decide) (by decide) (fun K hK => ?_) (fun K hK => ?_)
     ·skip
      refine gs Try.func107 #[.int .i64 (wrap64 (Int.tdiv a0 10))] ?_
      with_reducible refine (ih k (by omega) (wrap64 (Int.tdiv a0 10)) t480 _ A6.out).mono ?_
      rintro e w11 ⟨rfl, hb⟩
      refine ⟨_, rfl, ?_⟩
      have _ := ra (Kd.R_below (rq HO483) hb)
      have _ := bs hb
      clear HO483 HB
      rename_i HO483 HB
      (try clear hb)
      (try clear hb2)
      (try clear hk)
      (try clear hi)
      refine hK.out _ _ trivial (fun hHeld => ?_)
      clear hK K
      refine nm 12 ?_
      refine oe 8 18 (bl 11 511) (fun K hK => ?_)
      have hcv12 := own_string (P := Try.prog) Try.underlying45 Try.underlying5 Try.underlying9 (Kd.own_of_R HO483.out)
      refine value_ (w1 := ?_) (v := ?_) (by rfl) rfl ?_ ?_
      rotate_left 2
      ·go_simp
       constructor
       ·rfl
       ·rfl
      clear hcv12
      refine hK.out _ _ trivial (fun hHeld => ?_)
      clear hK K
      refine nm 18 ?_
      exact norm_ (by simp only [putAll, Act.put, List.setIfInBounds_toArray, List.set_cons_zero, List.set_cons_succ]) (hCont (v482) _ ⟨(rq HO483), bq⟩)
     ·skip
      have hcv11 := own_string (P := Try.prog) Try.underlying45 Try.underlying5 Try.underlying9 (Kd.own_of_R HO483.out)
      refine value_ (w1 := ?_) (v := ?_) (by rfl) rfl ?_ ?_
      rotate_left 2
      ·go_simp
       constructor
       ·rfl
       ·rfl
      clear hcv11
      refine hK.out _ _ trivial (fun hHeld => ?_)
      clear hK K
      refine nm 18 ?_
      refine oe 2 12 (bl 11 511) (fun K hK => ?_)
      refine gs Try.func107 #[.int .i64 (wrap64 (Int.tdiv a0 10))] ?_
      with_reducible refine (ih k (by omega) (wrap64 (Int.tdiv a0 10)) t480 _ A6.out).mono ?_
      rintro e w12 ⟨rfl, hb⟩
      refine ⟨_, rfl, ?_⟩
      have _ := ra (Kd.R_below (rq HO483) hb)
      have _ := bs hb
      clear HO483 HB
      rename_i HO483 HB
      (try clear hb)
      (try clear hb2)
      (try clear hk)
      (try clear hi)
      refine hK.out _ _ trivial (fun hHeld => ?_)
      clear hK K
      refine nm 12 ?_
      exact norm_ (by simp only [putAll, Act.put, List.setIfInBounds_toArray, List.set_cons_zero, List.set_cons_succ]) (hCont (v482) _ ⟨(rq HO483), bq⟩)
   rintro v482 w13 ⟨h0_, h1_⟩
   have _ : Aside0 (Kd.R (Kd.int .u8) 5 w13 w.heap.size (fun _ => True) v482 y481) := ⟨h0_⟩
   have _ : Aside0 (Below w.heap.size w w13) := ⟨h1_⟩
   clear HB
   clear h0_ h1_
   rename_i HO483 HB
   have hHeld := trivial
   refine norm_ (a' := ?_) ?_ ?_
   rotate_left
   ·simp only [putAll, Act.put, List.setIfInBounds_toArray, List.set_cons_zero, List.set_cons_succ]
    rfl
   refine pu 9 19 (bl 11 1023) ?_
   refine pu 10 2 (bl 11 2047) ?_
   refine done_ (done_of HT_.out (by kernel_rfl)) ?_
   try go_wp2
   go_ret
   exact ⟨re, bq⟩
  ·rw [if_neg c7] at H
   exact absurd H (by simp)
set_option maxHeartbeats 8000000 in
set_option maxRecDepth 100000 in
theorem spec_l2Sky.calls (k : Nat) (g : Nat) (s0_0 : List Int) (s0_1 : Int) (r1 : List (S40)) (r2 : Int) (w0 w : World) (hI : IsS127 w0 w g s0_0 s0_1) (hB : Below w0.heap.size w0 w) (h : spec_l2Sky.f k s0_0 s0_1 = some (r1, r2)) :
  Calls Try.prog 86 #[.pointer (some ⟨g, 0, none⟩)] w fun e w' => ∃ v0_ : Value, e = .returned (v0_) ∧ Kd.S k40 40 w' w.heap.size (fun _ => True) v0_ r1 ∧ IsS127 w0 w' g s0_0 r2 ∧ Below w0.heap.size w0 w' ∧ KeepBut w w' g none := by
 have HI0 := Aside0.mk hI
 have HK := ra (KeepBut.refl w g none)
 have HL := Aside0.mk hB.size
 clear hI
 have HW0 := Aside0.mk hB.size
 have HB := Aside0.mk hB
 clear hB
 have H : (spec_l2Sky.l0 k (([] : List (S40))) (([(⟨#[97, 49]⟩ : ByteArray), (⟨#[98]⟩ : ByteArray), (⟨#[99, 45, 99]⟩ : ByteArray), (⟨#[100]⟩ : ByteArray), (⟨#[101, 57]⟩ : ByteArray)] : List ByteArray)) 0 s0_0 s0_1) = some (r1, r2) := h
 clear h
 obtain ⟨y484, hy_⟩ : ∃ y_ : List (S40), y_ = (([] : List (S40))) := ⟨_, rfl⟩
 replace H : (spec_l2Sky.l0 k y484 (([(⟨#[97, 49]⟩ : ByteArray), (⟨#[98]⟩ : ByteArray), (⟨#[99, 45, 99]⟩ : ByteArray), (⟨#[100]⟩ : ByteArray), (⟨#[101, 57]⟩ : ByteArray)] : List ByteArray)) 0 s0_0 s0_1) = some (r1, r2) := yh
 have Ny484 := ra hy_
 clear hy_
 obtain ⟨y487, hy_⟩ : ∃ y_ : List ByteArray, y_ = (([(⟨#[97, 49]⟩ : ByteArray), (⟨#[98]⟩ : ByteArray), (⟨#[99, 45, 99]⟩ : ByteArray), (⟨#[100]⟩ : ByteArray), (⟨#[101, 57]⟩ : ByteArray)] : List ByteArray)) := ⟨_, rfl⟩
 replace H : (spec_l2Sky.l0 k y484 y487 0 s0_0 s0_1) = some (r1, r2) := yh
 have Ny487 := ra hy_
 clear hy_
 have H' := Aside0.mk H
 clear H
 go_enter Try.func86, Try.ntmps86
 go_wp2_with (first | ((with_reducible refine gate_dst (N := 7) rfl ?_); refine Kd.S_lit k40 _ 40 ?hg (N := 7) ?hd (xs := ([] : List (S40))) (inner := []) (ok := fun _ => True) (okp := fun _ => True) ?hr ?hp (fun _ hk => hk) trivial (Below.refl _ _) (Nat.le_refl _) (by simp) ?_; (case hd => rfl); (case hg => rfl); (case hr => first | (go_simp; done) | (go_simp; rfl)); (case hp => exact (Reps.none _ _)); intro v485 w2 ho3 hb hg_ hnew_; clear hg_ hnew_; (first | rw [← Ny484.out] at ho3 | (simp only [Int.reduceToNat] at ho3; rw [← Ny484.out] at ho3)); have _ := ra (Kd.S_lower ho3 (keep_size (w := w) (g := g) (row := none) (qk _ _ _ HK))); have _ := ra (IsS127.below (qi HI0) hb); have _ := kt (qk _ _ _ HK) hb; have _ := ra (below_step (qb HI0 HB) hb); clear HI0 HK HB; rename_i HO486 HI0 HK HB; clear hb ho3) | ((with_reducible refine gate_dst (N := 8) rfl ?_); refine Kd.R_lit Kd.string _ 9 ?hg (N := 8) ?hd (xs := ([(⟨#[97, 49]⟩ : ByteArray), (⟨#[98]⟩ : ByteArray), (⟨#[99, 45, 99]⟩ : ByteArray), (⟨#[100]⟩ : ByteArray), (⟨#[101, 57]⟩ : ByteArray)] : List ByteArray)) (inner := [.string (⟨#[97, 49]⟩ : ByteArray), .string (⟨#[98]⟩ : ByteArray), .string (⟨#[99, 45, 99]⟩ : ByteArray), .string (⟨#[100]⟩ : ByteArray), .string (⟨#[101, 57]⟩ : ByteArray)]) (ok := fun _ => True) (okp := fun _ => True) ?hr ?hp (fun _ hk => hk) trivial (Below.refl _ _) (Nat.le_refl _) (by simp) ?_; (case hd => rfl); (case hg => rfl); (case hr => first | (go_simp; done) | (go_simp; rfl)); (case hp => exact (Reps.one (show Kd.M Kd.string _ _ _ (⟨#[97, 49]⟩ : ByteArray) [.string (⟨#[97, 49]⟩ : ByteArray)] from rfl) (Reps.one (show Kd.M Kd.string _ _ _ (⟨#[98]⟩ : ByteArray) [.string (⟨#[98]⟩ : ByteArray)] from rfl) (Reps.one (show Kd.M Kd.string _ _ _ (⟨#[99, 45, 99]⟩ : ByteArray) [.string (⟨#[99, 45, 99]⟩ : ByteArray)] from rfl) (Reps.one (show Kd.M Kd.string _ _ _ (⟨#[100]⟩ : ByteArray) [.string (⟨#[100]⟩ : ByteArray)] from rfl) (Reps.one (show Kd.M Kd.string _ _ _ (⟨#[101, 57]⟩ : ByteArray) [.string (⟨#[101, 57]⟩ : ByteArray)] from rfl) (Reps.none _ _))))))); intro v488 w4 ho5 hb hg_ hnew_; clear hg_ hnew_; (first | rw [← Ny487.out] at ho5 | (simp only [Int.reduceToNat] at ho5; rw [← Ny487.out] at ho5)); have _ := ra (Kd.S_below (by (with_reducible repeat (first | apply Kd.S_alloc | apply Kd.S_drewN | apply Kd.S_drew)); exact HO486.out) hb); have _ := ra (Kd.R_lower ho5 (keep_size (w := w) (g := g) (row := none) (qk _ _ _ HK))); have _ := ra (IsS127.below (qi HI0) hb); have _ := kt (qk _ _ _ HK) hb; have _ := ra (below_step (qb HI0 HB) hb); clear HO486 HI0 HK HB; rename_i HO486 HO489 HI0 HK HB; clear hb ho5))
 go_loopg [3, 5] k (fun kq v3 v5 w' => ∃ (x3_1 : List (S40)) (x5_1 : Int) (x1001_1 : Int), v5 = .int .i64 x5_1 ∧ Aside0 (spec_l2Sky.l0 kq x3_1 y487 x5_1 s0_0 x1001_1 = some (r1, r2)) ∧ Aside0 (kq ≤ k) ∧ Aside0 (Kd.S k40 40 w' w.heap.size (fun _ => True) v3 x3_1) ∧ Aside0 (Kd.R Kd.string 9 w' w.heap.size (fun _ => True) v488 y487) ∧ Aside0 (IsS127 w0 w' g s0_0 x1001_1) ∧ Aside0 (KeepBut w w' g none) ∧ Aside0 (Below w0.heap.size w0 w'))
 case atStart => exact ⟨(y484), (0), (s0_1), rs, H', ⟨Nat.le_refl _⟩, ⟨by (with_reducible repeat (first | apply Kd.S_alloc | apply Kd.S_drewN | apply Kd.S_drew)); exact HO486.out⟩, ⟨rq HO489⟩, ⟨by exact qi HI0⟩, ⟨by exact qk _ _ _ HK⟩, ⟨by exact qb HI0 HB⟩⟩
 case round =>
  clear H'
  obtain ⟨x3_1, x5_1, x1001_1, rfl, HA, HK1, HO_3, HO_4, HI0, HK, HB⟩ := hrel
  cases gk with
  | zero => exact absurd HA.out (by simp [spec_l2Sky.l0])
  | succ k1 =>
   have H := HA.out
   clear HA
   simp only [spec_l2Sky.l0] at H
   by_cases c6 : x5_1 < (y487.length : Int)
   ·rw [if_pos c6] at H
    have c6b0 : decide (x5_1 < (y487.length : Int)) = true := decide_eq_true c6
    clear c6
    obtain ⟨⟨t490, t491⟩, A7, H⟩ := bo H
    try dsimp only at H
    by_cases c8 : t490 > 0
    ·rw [if_pos c8] at H
     have c8b0 : decide (0 < t490) = true := decide_eq_true c8
     clear c8
     by_cases c9 : 0 ≤ x5_1
     ·rw [if_pos c9] at H
      have c9b0 : decide (0 ≤ x5_1) = true := decide_eq_true c9
      clear c9
      obtain ⟨⟨t493, t494, t497⟩, A10, H⟩ := bo H
      try dsimp only at H
      by_cases c11 : x3_1.length < 3518437208883
      ·rw [if_pos c11] at H
       have LMc11 := Aside0.mk c11
       clear c11
       obtain ⟨y498, hy_⟩ : ∃ y_ : List (S40), y_ = (x3_1 ++ [(⟨t493, t494⟩ : S40)]) := ⟨_, rfl⟩
       replace H : (spec_l2Sky.l0 k1 y498 y487 (wrap64 (x5_1 + 1)) s0_0 t497) = some (r1, r2) := yh
       have Ny498 := ra hy_
       clear hy_
       have H' := Aside0.mk H
       clear H
       obtain ⟨Ao12, co12, eo12⟩ := Kd.R_slice HO_4.out
       subst eo12
       go_wp2_with (first | ((with_reducible refine gate_callee (f := 87) rfl ?_); refine gl (some 16) Try.func87 #[.pointer (some ⟨g, 0, none⟩), .int .i64 4] ?_; (with_reducible refine (spec_l1Rd_pick.calls k1 g s0_0 x1001_1 4 t490 t491 w0 _ ?side1 ?side2 A7.out).mono ?_); (case side1 => exact qi HI0); (case side2 => exact qb HI0 HB); rintro e w13 ⟨rfl, hi, hb, hk⟩; refine ⟨_, rfl, ?_⟩; have _ := ra (Kd.S_mono (Kd.S_keep (IsS127.apartS (show IsS127 w0 _ g s0_0 x1001_1 from qi HI0) (by (with_reducible repeat (first | apply Kd.S_alloc | apply Kd.S_drewN | apply Kd.S_drew)); exact HO_3.out) (by decide)) hk (fun _ h => h.2)) (fun _ h => h.1)); have _ := ra (Kd.R_mono (Kd.R_keep (IsS127.apart (show IsS127 w0 _ g s0_0 x1001_1 from qi HI0) (rq HO_4) (by decide)) hk (fun _ h => h.2)) (fun _ h => h.1)); have _ := ku (qk _ _ _ HK) hk; have _ := ra (hb); have _ := ra (hi); clear HO_3 HO_4 HK HB HI0; rename_i HO_3 HO_4 HK HB HI0; (try clear hb); (try clear hb2); (try clear hk); (try clear hi); have p492 : 0 ≤ (x5_1 : Int) := od; have q492 : x5_1 < (y487.length : Int) := od; obtain ⟨ad492, e492, hx492_0⟩ := Kd.at_string (Kd.R_reads' HO_4.out).2.2 x5_1 p492 q492; cases e492; replace p492 := eq_true p492; replace q492 := eq_true q492) | ((with_reducible refine gate_callee (f := 106) rfl ?_); refine gl (some 24) Try.func106 #[.pointer (some ⟨g, 0, none⟩), .string (rdOf ByteArray.empty y487 x5_1)] ?_; (with_reducible refine (spec_l2Tube.calls k1 g s0_0 t491 (rdOf ByteArray.empty y487 x5_1) t493 t494 t497 w0 _ ?side1 ?side2 A10.out).mono ?_); (case side1 => exact qi HI0); (case side2 => exact qb HI0 HB); rintro e w14 ⟨v495, rfl, ho0, hi, hb, hk⟩; refine ⟨_, rfl, ?_⟩; have _ := ra (Kd.S_mono (Kd.S_told (Kd.S_oldK (IsS127.apartS (show IsS127 w0 _ g s0_0 t491 from qi HI0) (by (with_reducible repeat (first | apply Kd.S_alloc | apply Kd.S_drewN | apply Kd.S_drew)); exact HO_3.out) (by decide)) hk) (Kd.R_base ho0)) (fun _ h_ => h_.1)); have _ := ra (Kd.R_mono (Kd.R_keep (IsS127.apart (show IsS127 w0 _ g s0_0 t491 from qi HI0) (rq HO_4) (by decide)) hk (fun _ h => h.2)) (fun _ h => h.1)); have _ := ra (Kd.R_lower ho0 (keep_size (w := w) (g := g) (row := none) (qk _ _ _ HK))); have _ := ku (qk _ _ _ HK) hk; have _ := ra (hb); have _ := ra (hi); clear HO_3 HO_4 HK HB HI0; rename_i HO_3 HO_4 HO496 HK HB HI0; (try clear hb); (try clear hb2); (try clear hk); (try clear hi); (try clear ho0); obtain ⟨Ao16, co16, eo16⟩ := Kd.R_slice HO496.out; subst eo16) | ((with_reducible refine gate_builtin (b := .append) (xs := #[.tmp 18, .tmp 25]) rfl ?_); at_builtin; refine Kd.S_append k40 w.heap.size rfl (.tmp 18) (.tmp 25) 26 40 (.agg #[(.string ⟨#[]⟩), (.slice none 0 0)]) 40 rfl Try.underlying26 info40 rfl (by decide) (by omega) u3 x3_1 (⟨t493, t494⟩ : S40) [.string t493, .slice Ao16 t494.length co16] (fun _ => True) (fun k_ => some k_ = (.slice Ao16 t494.length co16 : Value).ownBlock) rfl rfl ?aP (fun k_ hk_ => ((Kd.R_mono (ok' := fun k_ => ((fun _ => True)) k_ ∧ some k_ ≠ (u3 : Value).ownBlock) (Kd.R_apart' (HO496.out) (Kd.S_typed HO_3.out) (by decide)) (fun k_ hk => ⟨trivial, hk.2⟩))).1 k_ hk_.symm) ?aF ?aO (Below.refl _ _) ?aS ?aL ?_; (case aP => exact k40_mkM _ _ _ (⟨t493, t494⟩ : S40) (Kd.R_mono (Kd.R_tight rfl (Kd.R_mono (ok' := fun k_ => ((fun _ => True)) k_ ∧ some k_ ≠ (u3 : Value).ownBlock) (Kd.R_apart' (HO496.out) (Kd.S_typed HO_3.out) (by decide)) (fun k_ hk => ⟨trivial, hk.2⟩))) (fun _ h_ => h_))); (case aF => exact (fun _ _ => trivial)); (case aO => exact (by (with_reducible repeat (first | apply Kd.S_alloc | apply Kd.S_drewN | apply Kd.S_drew)); exact Kd.S_mono HO_3.out (fun k_ hk => ⟨trivial, fun e_ => hk.2 e_⟩))); (case aS => exact (keep_size (w := w) (g := g) (row := none) (qk _ _ _ HK))); (case aL => have := LMc11.out; omega); intro v499 w15 ho hb hg hat; rw [← Ny498.out] at ho; have _ := ra (Kd.R_over' (rq HO_4) (Kd.S_typed (by (with_reducible repeat (first | apply Kd.S_alloc | apply Kd.S_drewN | apply Kd.S_drew)); exact HO_3.out)) (by decide) hg); have _ := ra (IsS127.grown (qi HI0) hg (IsS127.own_neS HI0.out HO_3.out (by decide))); have _ := ra (below_weaken (qb HI0 HB) HL.out hb); have _ := ra (KeepBut.trans (qk _ _ _ HK) (KeepBut.of_grown hg g) (Kd.S_base2 HO_3.out)); have _ := ra (ho); clear HO_4 HI0 HB HK HO_3 HO496; rename_i HO_4 HI0 HB HK HO500; clear ho hb hg hat))
       go_roundg k1
       case measure => have := HK1.out; omega
       case rel => exact ⟨(y498), (wrap64 (x5_1 + 1)), (t497), rs, H', ⟨by have := HK1.out; omega⟩, ⟨by (with_reducible repeat (first | apply Kd.S_alloc | apply Kd.S_drewN | apply Kd.S_drew)); exact HO500.out⟩, ⟨rq HO_4⟩, ⟨by exact qi HI0⟩, ⟨by exact qk _ _ _ HK⟩, ⟨by exact qb HI0 HB⟩⟩
      ·rw [if_neg c11] at H
       exact absurd H (by simp)
     ·rw [if_neg c9] at H
      exact absurd H (by simp)
    ·rw [if_neg c8] at H
     have c8b0 : decide (0 < t490) = false := decide_eq_false c8
     clear c8
     have H' := Aside0.mk H
     clear H
     obtain ⟨Ao17, co17, eo17⟩ := Kd.R_slice HO_4.out
     subst eo17
     go_wp2_with (first | ((with_reducible refine gate_callee (f := 87) rfl ?_); refine gl (some 16) Try.func87 #[.pointer (some ⟨g, 0, none⟩), .int .i64 4] ?_; (with_reducible refine (spec_l1Rd_pick.calls k1 g s0_0 x1001_1 4 t490 t491 w0 _ ?side1 ?side2 A7.out).mono ?_); (case side1 => exact qi HI0); (case side2 => exact qb HI0 HB); rintro e w18 ⟨rfl, hi, hb, hk⟩; refine ⟨_, rfl, ?_⟩; have _ := ra (Kd.S_mono (Kd.S_keep (IsS127.apartS (show IsS127 w0 _ g s0_0 x1001_1 from qi HI0) (by (with_reducible repeat (first | apply Kd.S_alloc | apply Kd.S_drewN | apply Kd.S_drew)); exact HO_3.out) (by decide)) hk (fun _ h => h.2)) (fun _ h => h.1)); have _ := ra (Kd.R_mono (Kd.R_keep (IsS127.apart (show IsS127 w0 _ g s0_0 x1001_1 from qi HI0) (rq HO_4) (by decide)) hk (fun _ h => h.2)) (fun _ h => h.1)); have _ := ku (qk _ _ _ HK) hk; have _ := ra (hb); have _ := ra (hi); clear HO_3 HO_4 HK HB HI0; rename_i HO_3 HO_4 HK HB HI0; (try clear hb); (try clear hb2); (try clear hk); (try clear hi)))
     go_roundg k1
     case measure => have := HK1.out; omega
     case rel => exact ⟨(x3_1), (wrap64 (x5_1 + 1)), (t491), rs, H', ⟨by have := HK1.out; omega⟩, ⟨by (with_reducible repeat (first | apply Kd.S_alloc | apply Kd.S_drewN | apply Kd.S_drew)); exact HO_3.out⟩, ⟨rq HO_4⟩, ⟨by exact qi HI0⟩, ⟨by exact qk _ _ _ HK⟩, ⟨by exact qb HI0 HB⟩⟩
   ·rw [if_neg c6] at H
    have c6b0 : decide (x5_1 < (y487.length : Int)) = false := decide_eq_false c6
    clear c6
    obtain ⟨⟨t501, t502⟩, A19, H⟩ := bo H
    try dsimp only at H
    by_cases c20 : t501 = 0
    ·rw [if_pos c20] at H
     have c20b0 : (t501 == 0) = true := beq_iff_eq.mpr c20
     have c20b1 : (t501 != 0) = false := bne_eq_false_iff_eq.mpr c20
     clear c20
     obtain ⟨⟨t503, t504⟩, A21, H⟩ := bo H
     try dsimp only at H
     have H' := Aside0.mk H
     clear H
     obtain ⟨Ao22, co22, eo22⟩ := Kd.R_slice HO_4.out
     subst eo22
     go_wp2_with (first | ((with_reducible refine gate_callee (f := 87) rfl ?_); refine gl (some 28) Try.func87 #[.pointer (some ⟨g, 0, none⟩), .int .i64 30] ?_; (with_reducible refine (spec_l1Rd_pick.calls k1 g s0_0 x1001_1 30 t501 t502 w0 _ ?side1 ?side2 A19.out).mono ?_); (case side1 => exact qi HI0); (case side2 => exact qb HI0 HB); rintro e w23 ⟨rfl, hi, hb, hk⟩; refine ⟨_, rfl, ?_⟩; have _ := ra (Kd.S_mono (Kd.S_keep (IsS127.apartS (show IsS127 w0 _ g s0_0 x1001_1 from qi HI0) (by (with_reducible repeat (first | apply Kd.S_alloc | apply Kd.S_drewN | apply Kd.S_drew)); exact HO_3.out) (by decide)) hk (fun _ h => h.2)) (fun _ h => h.1)); have _ := ra (Kd.R_mono (Kd.R_keep (IsS127.apart (show IsS127 w0 _ g s0_0 x1001_1 from qi HI0) (rq HO_4) (by decide)) hk (fun _ h => h.2)) (fun _ h => h.1)); have _ := ku (qk _ _ _ HK) hk; have _ := ra (hb); have _ := ra (hi); clear HO_3 HO_4 HK HB HI0; rename_i HO_3 HO_4 HK HB HI0; (try clear hb); (try clear hb2); (try clear hk); (try clear hi)) | ((with_reducible refine gate_callee (f := 87) rfl ?_); refine gl (some 31) Try.func87 #[.pointer (some ⟨g, 0, none⟩), .int .i64 2] ?_; (with_reducible refine (spec_l1Rd_pick.calls k1 g s0_0 t502 2 t503 t504 w0 _ ?side1 ?side2 A21.out).mono ?_); (case side1 => exact qi HI0); (case side2 => exact qb HI0 HB); rintro e w24 ⟨rfl, hi, hb, hk⟩; refine ⟨_, rfl, ?_⟩; have _ := ra (Kd.S_mono (Kd.S_keep (IsS127.apartS (show IsS127 w0 _ g s0_0 t502 from qi HI0) (by (with_reducible repeat (first | apply Kd.S_alloc | apply Kd.S_drewN | apply Kd.S_drew)); exact HO_3.out) (by decide)) hk (fun _ h => h.2)) (fun _ h => h.1)); have _ := ra (Kd.R_mono (Kd.R_keep (IsS127.apart (show IsS127 w0 _ g s0_0 t502 from qi HI0) (rq HO_4) (by decide)) hk (fun _ h => h.2)) (fun _ h => h.1)); have _ := ku (qk _ _ _ HK) hk; have _ := ra (hb); have _ := ra (hi); clear HO_3 HO_4 HK HB HI0; rename_i HO_3 HO_4 HK HB HI0; (try clear hb); (try clear hb2); (try clear hk); (try clear hi)))
     go_loopg [3] k1 (fun kq v3 w' => ∃ (x3_2 : List (S40)) (x1001_2 : Int), Aside0 (spec_l2Sky.l1 kq x3_2 (wrap64 (24 - t503)) s0_0 x1001_2 = some (r1, r2)) ∧ Aside0 (kq ≤ k1) ∧ Aside0 (Kd.S k40 40 w' w.heap.size (fun _ => True) v3 x3_2) ∧ Aside0 (IsS127 w0 w' g s0_0 x1001_2) ∧ Aside0 (KeepBut w w' g none) ∧ Aside0 (Below w0.heap.size w0 w'))
     case atStart => exact ⟨(x3_1), (t504), H', ⟨Nat.le_refl _⟩, ⟨by (with_reducible repeat (first | apply Kd.S_alloc | apply Kd.S_drewN | apply Kd.S_drew)); exact HO_3.out⟩, ⟨by exact qi HI0⟩, ⟨by exact qk _ _ _ HK⟩, ⟨by exact qb HI0 HB⟩⟩
     case round =>
      clear H'
      try clear c6
      try clear c6b0
      try clear c8
      try clear c8b0
      try clear c9
      try clear c9b0
      try clear c11
      try clear c20
      try clear c20b0
      try clear c20b1
      try clear hx492_0
      try clear p492
      try clear q492
      obtain ⟨x3_2, x1001_2, HA, HK2, HO_3, HI0, HK, HB⟩ := hrel
      cases gk with
      | zero => exact absurd HA.out (by simp [spec_l2Sky.l1])
      | succ k2 =>
       have H := HA.out
       clear HA
       simp only [spec_l2Sky.l1] at H
       by_cases c25 : (x3_2.length : Int) < (wrap64 (24 - t503))
       ·rw [if_pos c25] at H
        have c25b0 : decide ((x3_2.length : Int) < (wrap64 (24 - t503))) = true := decide_eq_true c25
        clear c25
        obtain ⟨t505, A26, H⟩ := bo H
        by_cases c27 : 1 + t505.size ≤ 9223372036854775807
        ·rw [if_pos c27] at H
         have c27b0 := eq_true c27
         have c27b1 : decide (1 + t505.size ≤ 9223372036854775807) = true := decide_eq_true c27
         try have c27b2 : (9223372036854775807 < 1 + t505.size) = False := eq_false (Nat.not_lt.2 c27)
         obtain ⟨⟨t506, t507, t510⟩, A28, H⟩ := bo H
         try dsimp only at H
         by_cases c29 : x3_2.length < 3518437208883
         ·rw [if_pos c29] at H
          have LMc29 := Aside0.mk c29
          clear c29
          obtain ⟨y511, hy_⟩ : ∃ y_ : List (S40), y_ = (x3_2 ++ [(⟨t506, t507⟩ : S40)]) := ⟨_, rfl⟩
          replace H : (spec_l2Sky.l1 k2 y511 (wrap64 (24 - t503)) s0_0 t510) = some (r1, r2) := yh
          have Ny511 := ra hy_
          clear hy_
          have H' := Aside0.mk H
          clear H
          obtain ⟨Ao30, co30, eo30⟩ := Kd.S_slice HO_3.out
          subst eo30
          go_wp2_with (first | ((with_reducible refine gate_callee (f := 107) rfl ?_); refine gl (some 42) Try.func107 #[.int .i64 (wrap64 (10 + (x3_2.length : Int)))] ?_; (with_reducible refine (spec_l7Dec.calls k2 (wrap64 (10 + (x3_2.length : Int))) t505 _ A26.out).mono ?_); rintro e w31 ⟨rfl, hb⟩; refine ⟨_, rfl, ?_⟩; have _ := ra (Kd.S_below (by (with_reducible repeat (first | apply Kd.S_alloc | apply Kd.S_drewN | apply Kd.S_drew)); exact HO_3.out) hb); have _ := ra (IsS127.below (qi HI0) hb); have _ := kt (qk _ _ _ HK) hb; have _ := ra (below_step (qb HI0 HB) hb); clear HO_3 HI0 HK HB; rename_i HO_3 HI0 HK HB; (try clear hb); (try clear hb2); (try clear hk); (try clear hi)) | ((with_reducible refine gate_callee (f := 106) rfl ?_); refine gl (some 44) Try.func106 #[.pointer (some ⟨g, 0, none⟩), .string ((⟨#[102]⟩ : ByteArray) ++ t505)] ?_; (with_reducible refine (spec_l2Tube.calls k2 g s0_0 x1001_2 ((⟨#[102]⟩ : ByteArray) ++ t505) t506 t507 t510 w0 _ ?side1 ?side2 A28.out).mono ?_); (case side1 => exact qi HI0); (case side2 => exact qb HI0 HB); rintro e w32 ⟨v508, rfl, ho0, hi, hb, hk⟩; refine ⟨_, rfl, ?_⟩; have _ := ra (Kd.S_mono (Kd.S_told (Kd.S_oldK (IsS127.apartS (show IsS127 w0 _ g s0_0 x1001_2 from qi HI0) (by (with_reducible repeat (first | apply Kd.S_alloc | apply Kd.S_drewN | apply Kd.S_drew)); exact HO_3.out) (by decide)) hk) (Kd.R_base ho0)) (fun _ h_ => h_.1)); have _ := ra (Kd.R_lower ho0 (keep_size (w := w) (g := g) (row := none) (qk _ _ _ HK))); have _ := ku (qk _ _ _ HK) hk; have _ := ra (hb); have _ := ra (hi); clear HO_3 HK HB HI0; rename_i HO_3 HO509 HK HB HI0; (try clear hb); (try clear hb2); (try clear hk); (try clear hi); (try clear ho0); obtain ⟨Ao34, co34, eo34⟩ := Kd.R_slice HO509.out; subst eo34) | ((with_reducible refine gate_builtin (b := .append) (xs := #[.tmp 37, .tmp 45]) rfl ?_); at_builtin; refine Kd.S_append k40 w.heap.size rfl (.tmp 37) (.tmp 45) 26 40 (.agg #[(.string ⟨#[]⟩), (.slice none 0 0)]) 40 rfl Try.underlying26 info40 rfl (by decide) (by omega) (.slice Ao30 x3_2.length co30) x3_2 (⟨t506, t507⟩ : S40) [.string t506, .slice Ao34 t507.length co34] (fun _ => True) (fun k_ => some k_ = (.slice Ao34 t507.length co34 : Value).ownBlock) rfl rfl ?aP (fun k_ hk_ => ((Kd.R_mono (ok' := fun k_ => ((fun _ => True)) k_ ∧ some k_ ≠ (.slice Ao30 x3_2.length co30 : Value).ownBlock) (Kd.R_apart' (HO509.out) (Kd.S_typed HO_3.out) (by decide)) (fun k_ hk => ⟨trivial, hk.2⟩))).1 k_ hk_.symm) ?aF ?aO (Below.refl _ _) ?aS ?aL ?_; (case aP => exact k40_mkM _ _ _ (⟨t506, t507⟩ : S40) (Kd.R_mono (Kd.R_tight rfl (Kd.R_mono (ok' := fun k_ => ((fun _ => True)) k_ ∧ some k_ ≠ (.slice Ao30 x3_2.length co30 : Value).ownBlock) (Kd.R_apart' (HO509.out) (Kd.S_typed HO_3.out) (by decide)) (fun k_ hk => ⟨trivial, hk.2⟩))) (fun _ h_ => h_))); (case aF => exact (fun _ _ => trivial)); (case aO => exact (by (with_reducible repeat (first | apply Kd.S_alloc | apply Kd.S_drewN | apply Kd.S_drew)); exact Kd.S_mono HO_3.out (fun k_ hk => ⟨trivial, fun e_ => hk.2 e_⟩))); (case aS => exact (keep_size (w := w) (g := g) (row := none) (qk _ _ _ HK))); (case aL => have := LMc29.out; omega); intro v512 w33 ho hb hg hat; rw [← Ny511.out] at ho; have _ := ra (IsS127.grown (qi HI0) hg (IsS127.own_neS HI0.out HO_3.out (by decide))); have _ := ra (below_weaken (qb HI0 HB) HL.out hb); have _ := ra (KeepBut.trans (qk _ _ _ HK) (KeepBut.of_grown hg g) (Kd.S_base2 HO_3.out)); have _ := ra (ho); clear HI0 HB HK HO_3 HO509; rename_i HI0 HB HK HO513; clear ho hb hg hat))
          go_roundg k2
          case measure => have := HK1.out; have := HK2.out; omega
          case rel => exact ⟨(y511), (t510), H', ⟨by have := HK1.out; have := HK2.out; omega⟩, ⟨by (with_reducible repeat (first | apply Kd.S_alloc | apply Kd.S_drewN | apply Kd.S_drew)); exact HO513.out⟩, ⟨by exact qi HI0⟩, ⟨by exact qk _ _ _ HK⟩, ⟨by exact qb HI0 HB⟩⟩
         ·rw [if_neg c29] at H
          exact absurd H (by simp)
        ·rw [if_neg c27] at H
         exact absurd H (by simp)
       ·rw [if_neg c25] at H
        have c25b0 : decide ((x3_2.length : Int) < (wrap64 (24 - t503))) = false := decide_eq_false c25
        clear c25
        simp only [Option.some.injEq, Prod.mk.injEq] at H
        obtain ⟨rfl, rfl⟩ := H
        obtain ⟨Ao35, co35, eo35⟩ := Kd.S_slice HO_3.out
        subst eo35
        go_wp2
        go_ret
        exact ⟨_, re, by (with_reducible repeat (first | apply Kd.S_alloc | apply Kd.S_drewN | apply Kd.S_drew)); exact HO_3.out, by exact qi HI0, by exact qb HI0 HB, by exact qk _ _ _ HK⟩
    ·rw [if_neg c20] at H
     have c20b0 : (t501 == 0) = false := beq_eq_false_iff_ne.mpr c20
     have c20b1 : (t501 != 0) = true := bne_iff_ne.mpr c20
     simp only [Option.some.injEq, Prod.mk.injEq] at H
     obtain ⟨rfl, rfl⟩ := H
     obtain ⟨Ao36, co36, eo36⟩ := Kd.R_slice HO_4.out
     subst eo36
     go_wp2_with (first | ((with_reducible refine gate_callee (f := 87) rfl ?_); refine gl (some 28) Try.func87 #[.pointer (some ⟨g, 0, none⟩), .int .i64 30] ?_; (with_reducible refine (spec_l1Rd_pick.calls k1 g s0_0 x1001_1 30 t501 t502 w0 _ ?side1 ?side2 A19.out).mono ?_); (case side1 => exact qi HI0); (case side2 => exact qb HI0 HB); rintro e w37 ⟨rfl, hi, hb, hk⟩; refine ⟨_, rfl, ?_⟩; have _ := ra (Kd.S_mono (Kd.S_keep (IsS127.apartS (show IsS127 w0 _ g s0_0 x1001_1 from qi HI0) (by (with_reducible repeat (first | apply Kd.S_alloc | apply Kd.S_drewN | apply Kd.S_drew)); exact HO_3.out) (by decide)) hk (fun _ h => h.2)) (fun _ h => h.1)); have _ := ra (Kd.R_mono (Kd.R_keep (IsS127.apart (show IsS127 w0 _ g s0_0 x1001_1 from qi HI0) (rq HO_4) (by decide)) hk (fun _ h => h.2)) (fun _ h => h.1)); have _ := ku (qk _ _ _ HK) hk; have _ := ra (hb); have _ := ra (hi); clear HO_3 HO_4 HK HB HI0; rename_i HO_3 HO_4 HK HB HI0; (try clear hb); (try clear hb2); (try clear hk); (try clear hi)))
     go_ret
     exact ⟨_, re, by (with_reducible repeat (first | apply Kd.S_alloc | apply Kd.S_drewN | apply Kd.S_drew)); exact HO_3.out, by exact qi HI0, by exact qb HI0 HB, by exact qk _ _ _ HK⟩
set_option maxHeartbeats 8000000 in
set_option maxRecDepth 100000 in
theorem spec_l2AnySky.calls (k : Nat) (g : Nat) (s0_0 : List Int) (s0_1 : Int) (r1 : List (S40)) (r2 : Int) (w0 w : World) (hI : IsS127 w0 w g s0_0 s0_1) (hB : Below w0.heap.size w0 w) (h : spec_l2AnySky.f k s0_0 s0_1 = some (r1, r2)) :
  Calls Try.prog 56 #[.pointer (some ⟨g, 0, none⟩)] w fun e w' => ∃ v0_ : Value, e = .returned (v0_) ∧ Kd.S k40 40 w' w.heap.size (fun _ => True) v0_ r1 ∧ IsS127 w0 w' g s0_0 r2 ∧ Below w0.heap.size w0 w' ∧ KeepBut w w' g none := by
 have hu40 := Try.underlying40
 have HI0 := Aside0.mk hI
 have HK := ra (KeepBut.refl w g none)
 have HL := Aside0.mk hB.size
 clear hI
 have HW0 := Aside0.mk hB.size
 have HB := Aside0.mk hB
 clear hB
 have H : ((spec_l2Sky.f k s0_0 s0_1).bind fun bt605 => (if (bt605.1.length : Int) > 0 then ((spec_l1Rd_pick.f k s0_0 bt605.2 16).bind fun bt609 => (spec_l2AnySky.j0 k bt605.1 (bt609.1 == 0) s0_0 bt609.2)) else (spec_l2AnySky.j0 k bt605.1 false s0_0 bt605.2))) = some (r1, r2) := h
 clear h
 obtain ⟨⟨t605, t608⟩, A2, H⟩ := bo H
 try dsimp only at H
 have HC3 := Aside0.mk H
 clear H
 go_enter Try.func56, Try.ntmps56
 go_upto_region 2 with (first | ((with_reducible refine gate_callee (f := 86) rfl ?_); refine gl (some 6) Try.func86 #[.pointer (some ⟨g, 0, none⟩)] ?_; (with_reducible refine (spec_l2Sky.calls k g s0_0 s0_1 t605 t608 w0 _ ?side1 ?side2 A2.out).mono ?_); (case side1 => exact qi HI0); (case side2 => exact qb HI0 HB); rintro e w4 ⟨v606, rfl, ho0, hi, hb, hk⟩; refine ⟨_, rfl, ?_⟩; have _ := ra (Kd.S_lower ho0 (keep_size (w := w) (g := g) (row := none) (qk _ _ _ HK))); have _ := ku (qk _ _ _ HK) hk; have _ := ra (hb); have _ := ra (hi); clear HK HB HI0; rename_i HO607 HK HB HI0; (try clear hb); (try clear hb2); (try clear hk); (try clear hi); (try clear ho0)))
 (try simp only [Act.put, List.setIfInBounds_toArray, List.set_cons_zero, List.set_cons_succ])
 go_cut [14] (fun v14 wc => ∃ (kq : Nat) (x14_2 : Bool) (x1001_2 : Int), v14 = .bool x14_2 ∧ Aside0 (spec_l2AnySky.j0 kq t605 x14_2 s0_0 x1001_2 = some (r1, r2)) ∧ Aside0 (kq ≤ k) ∧ Aside0 (Kd.S k40 40 wc w.heap.size (fun _ => True) v606 t605) ∧ Aside0 (IsS127 w0 wc g s0_0 x1001_2) ∧ Aside0 (KeepBut w wc g none) ∧ Aside0 (Below w0.heap.size w0 wc))
 case first =>
  have H := HC3.out
  clear HC3
  by_cases c5 : (t605.length : Int) > 0
  ·rw [if_pos c5] at H
   have c5b0 : decide (0 < (t605.length : Int)) = true := decide_eq_true c5
   have c5b1 : decide (0 < t605.length) = true := decide_eq_true (by omega)
   clear c5
   (first | rw [c5b0] | (simp only [i64_w, i32_w]; rw [c5b0]) | skip)
   obtain ⟨⟨t609, t610⟩, A6, H⟩ := bo H
   try dsimp only at H
   have H' := Aside0.mk H
   clear H
   obtain ⟨Ao7, co7, eo7⟩ := Kd.S_slice HO607.out
   subst eo7
   go_wp2_with (first | (go_at_call 87; (with_reducible refine (spec_l1Rd_pick.calls k g s0_0 t608 16 t609 t610 w0 _ ?side1 ?side2 A6.out).mono ?_); (case side1 => exact qi HI0); (case side2 => exact qb HI0 HB); rintro e w8 ⟨rfl, hi, hb, hk⟩; have _ := ra (Kd.S_mono (Kd.S_keep (IsS127.apartS (show IsS127 w0 _ g s0_0 t608 from qi HI0) (by (with_reducible repeat (first | apply Kd.S_alloc | apply Kd.S_drewN | apply Kd.S_drew)); exact HO607.out) (by decide)) hk (fun _ h => h.2)) (fun _ h => h.1)); have _ := ku (qk _ _ _ HK) hk; have _ := ra (hb); have _ := ra (hi); clear HO607 HK HB HI0; rename_i HO607 HK HB HI0; (try clear hb); (try clear hb2); (try clear hk); (try clear hi)))
   go_meet
   case rel => exact ⟨_, ((t609 == 0)), (t610), rs, H', ⟨by first | omega | exact Nat.le_refl _⟩, ⟨by (with_reducible repeat (first | apply Kd.S_alloc | apply Kd.S_drewN | apply Kd.S_drew)); exact HO607.out⟩, ⟨by exact qi HI0⟩, ⟨by exact qk _ _ _ HK⟩, ⟨by exact qb HI0 HB⟩⟩
  ·rw [if_neg c5] at H
   have c5b0 : decide (0 < (t605.length : Int)) = false := decide_eq_false c5
   have c5b1 : decide (0 < t605.length) = false := decide_eq_false (by omega)
   clear c5
   (first | rw [c5b0] | (simp only [i64_w, i32_w]; rw [c5b0]) | skip)
   have H' := Aside0.mk H
   clear H
   obtain ⟨Ao9, co9, eo9⟩ := Kd.S_slice HO607.out
   subst eo9
   go_wp2
   go_meet
   case rel => exact ⟨_, (false), (t608), rs, H', ⟨by first | omega | exact Nat.le_refl _⟩, ⟨by (with_reducible repeat (first | apply Kd.S_alloc | apply Kd.S_drewN | apply Kd.S_drew)); exact HO607.out⟩, ⟨by exact qi HI0⟩, ⟨by exact qk _ _ _ HK⟩, ⟨by exact qb HI0 HB⟩⟩
 case rest =>
  clear HC3
  try clear c5
  try clear c5b0
  try clear c5b1
  obtain ⟨kq, x14_2, x1001_2, rfl, HA, HJ2, HO_3, HI0, HK, HB⟩ := hcut
  cases kq with
  | zero => exact absurd HA.out (by simp [spec_l2AnySky.j0])
  | succ kj2 =>
   have H := HA.out
   clear HA
   simp only [spec_l2AnySky.j0] at H
   by_cases c10 : x14_2 = true
   ·subst c10
    replace H := it H rfl
    obtain ⟨⟨t611, t612⟩, A11, H⟩ := bo H
    try dsimp only at H
    by_cases c12 : 0 ≤ t611
    ·rw [if_pos c12] at H
     have c12b0 : decide (0 ≤ t611) = true := decide_eq_true c12
     clear c12
     by_cases c13 : t611 < (t605.length : Int)
     ·rw [if_pos c13] at H
      have c13b0 : decide (t611 < (t605.length : Int)) = true := decide_eq_true c13
      clear c13
      obtain ⟨⟨t614, t615, t618⟩, A14, H⟩ := bo H
      try dsimp only at H
      obtain ⟨y619, hy_⟩ : ∃ y_ : List (S40), y_ = (t605.set (t611 : Int).toNat (⟨t614, t615⟩ : S40)) := ⟨_, rfl⟩
      replace H : (some (y619, t618)) = some (r1, r2) := yh
      have Ny619 := ra hy_
      clear hy_
      simp only [Option.some.injEq, Prod.mk.injEq] at H
      obtain ⟨rfl, rfl⟩ := H
      obtain ⟨Ao16, co16, eo16⟩ := Kd.S_slice HO_3.out
      subst eo16
      go_wp2_with (first | ((with_reducible refine gate_callee (f := 87) rfl ?_); refine gl (some 18) Try.func87 #[.pointer (some ⟨g, 0, none⟩), .int .i64 (t605.length : Int)] ?_; (with_reducible refine (spec_l1Rd_pick.calls kj2 g s0_0 x1001_2 (t605.length : Int) t611 t612 w0 _ ?side1 ?side2 A11.out).mono ?_); (case side1 => exact qi HI0); (case side2 => exact qb HI0 HB); rintro e w17 ⟨rfl, hi, hb, hk⟩; refine ⟨_, rfl, ?_⟩; have _ := ra (Kd.S_mono (Kd.S_keep (IsS127.apartS (show IsS127 w0 _ g s0_0 x1001_2 from qi HI0) (by (with_reducible repeat (first | apply Kd.S_alloc | apply Kd.S_drewN | apply Kd.S_drew)); exact HO_3.out) (by decide)) hk (fun _ h => h.2)) (fun _ h => h.1)); have _ := ku (qk _ _ _ HK) hk; have _ := ra (hb); have _ := ra (hi); clear HO_3 HK HB HI0; rename_i HO_3 HK HB HI0; (try clear hb); (try clear hb2); (try clear hk); (try clear hi); have p613 : 0 ≤ (t611 : Int) := od; have q613 : t611 < (t605.length : Int) := od; obtain ⟨ad613, A613_1, c613_1, e613, hx613_0, hx613_1, hl613_1, hi613_1⟩ := at_T40 (Kd.S_reads' HO_3.out).2.2 t611 p613 q613; cases e613; obtain ⟨ce613, hce613, hMe613, hcc613⟩ := Kd.S_get HO_3.out z40 t611 p613 (by first | exact q613 | exact od | (have e_ := (Kd.S_reads' HO_3.out).1; omega)); obtain ⟨ve613_1, rfl, ge613_1⟩ := k40_openM hMe613; have hv613_1 := hcc613 1 _ rfl; rw [add_field _ _ 1 (by omega)] at hv613_1; replace hv613_1 := Option.some.inj (hv613_1.symm.trans hx613_1); rw [hv613_1] at ge613_1; have HL613_1 := ra (show Kd.R k95 95 _ _ _ _ ((rd_T40 t605 t611).f1) from ge613_1); clear hv613_1 ge613_1; clear hcc613 hce613; have HR613_1 := Aside0.mk hi613_1; have HC613_1 := Aside0.mk hl613_1; clear hi613_1 hl613_1; replace p613 := eq_true p613; replace q613 := eq_true q613) | ((with_reducible refine gate_callee (f := 88) rfl ?_); refine gl (some 26) Try.func88 #[.pointer (some ⟨g, 0, none⟩), .agg #[.string ((rd_T40 t605 t611).f0), .slice A613_1 ((rd_T40 t605 t611).f1).length c613_1]] ?_; (with_reducible refine (spec_l2SpoilTube.calls kj2 g s0_0 t612 ((rd_T40 t605 t611).f0) _ _ ((rd_T40 t605 t611).f1) t614 t615 t618 w0 _ ?side1 ?side2 ?side3 ?side4 A14.out).mono ?_); (case side1 => exact qi HI0); (case side2 => exact qb HI0 HB); (case side3 => exact Kd.C_foot_own (IsS127.apart (show IsS127 w0 _ g s0_0 t612 from qi HI0) (by (with_reducible repeat (first | apply Kd.R_alloc | apply Kd.R_drewN | apply Kd.R_drew)); exact HL613_1.out) (by decide)) (fun _ h_ => h_.2)); (case side4 => exact HC613_1.out); rintro e w18 ⟨v616, rfl, ho0, hi, hb, hk⟩; obtain ⟨Aq616, cq616, eq616⟩ := Kd.R_slice ho0; subst eq616; refine ⟨_, rfl, ?_⟩; have _ := ra (Kd.S_mono (Kd.S_told (Kd.S_oldK (IsS127.apartS (show IsS127 w0 _ g s0_0 t612 from qi HI0) (by (with_reducible repeat (first | apply Kd.S_alloc | apply Kd.S_drewN | apply Kd.S_drew)); exact HO_3.out) (by decide)) hk) (Kd.R_base ho0)) (fun _ h_ => h_.1)); have _ := ra (Kd.R_mono (Kd.R_told (Kd.R_oldK (IsS127.apart (show IsS127 w0 _ g s0_0 t612 from qi HI0) (by (with_reducible repeat (first | apply Kd.R_alloc | apply Kd.R_drewN | apply Kd.R_drew)); exact HL613_1.out) (by decide)) hk) (Kd.R_base ho0)) (fun _ h_ => h_.1)); have _ := ra (Kd.R_lower (Kd.R_new' ho0 (Kd.R_lt (by (with_reducible repeat (first | apply Kd.R_alloc | apply Kd.R_drewN | apply Kd.R_drew)); exact HL613_1.out))) (keep_size (w := w) (g := g) (row := none) (qk _ _ _ HK))); have _ := ku (qk _ _ _ HK) hk; have _ := ra (hb); have _ := ra (hi); clear HO_3 HL613_1 HK HB HI0; rename_i HO_3 HL613_1 HO617 HK HB HI0; (try clear hb); (try clear hb2); (try clear hk); (try clear hi); (try clear ho0); have p15 : 0 ≤ (t611 : Int) := od; have q15 : (t611 : Int) < ((t605.length : Int) : Int) := od; obtain ⟨go15, co15, eo15, gb15, gl15, cl15, HG15⟩ := Kd.S_form HO_3.out (by omega); (first | cases eo15 | (injection eo15 with ea_ en_ ec_; (first | subst ea_ | (injection ea_ with ea_; subst ea_)); subst ec_; clear en_)); have GB15 := Aside0.mk gb15; have GG15 := Aside0.mk HG15; clear gb15 gl15 HG15; (first | simp only [add_plain] at hx613_0 | skip); (first | simp only [add_plain] at hx613_1 | skip); obtain ⟨_, ce15, hcl15, hM15, hcc15, hfr15, _, _⟩ := Kd.S_elem HO_3.out z40 (t611 : Int) p15 q15; obtain ⟨ve15_1, rfl, ge15_1⟩ := k40_openM hM15; have hx15_0 : w18.cell? ⟨go15, (t611 : Int).toNat * 2, none⟩ = some (.string ((rd_T40 t605 t611).f0)) := hcc15 0 _ rfl; have hx15_1 : w18.cell? ⟨go15, (t611 : Int).toNat * 2 + 1, none⟩ = some (ve15_1) := hcc15 1 _ rfl; have hf15_0 : w18.frozen? ⟨go15, (t611 : Int).toNat * 2, none⟩ = false := hfr15 0; have hf15_1 : w18.frozen? ⟨go15, (t611 : Int).toNat * 2 + 1, none⟩ = false := hfr15 1; clear hcl15 hcc15 hfr15 hM15; replace p15 := eq_true p15; replace q15 := eq_true q15; have n_ := ra (Kd.S_mono (ok' := (fun k_ => some k_ ≠ ((.slice Aq616 t615.length cq616 : Value) : Value).ownBlock)) HO_3.out (fun k_ hk => hk.2)); clear HO_3; have HO_3 := n_; clear n_; have HX19 := ra (show Kd.S k40 40 w18 w.heap.size (fun k_ => ((fun _ => True)) k_ ∧ ¬ ((fun k_ => some k_ = ((.slice Aq616 t615.length cq616 : Value) : Value).ownBlock)) k_) (.slice (some ⟨go15, 0, none⟩) t605.length co16) t605 from (by (with_reducible repeat (first | apply Kd.S_alloc | apply Kd.S_drewN | apply Kd.S_drew)); exact Kd.S_mono HO_3.out (fun k_ hk => ⟨trivial, fun e_ => hk e_⟩))); obtain ⟨oki19, ce19, hcl19, hM19, hcc19, hfr19, hoki19, hH19⟩ := Kd.S_elem HX19.out z40 (t611 : Int) (od) (by have h_ : (t611 : Int) < ((t605.length : Int) : Int) := od; first | exact h_ | (have e_ := (Kd.S_reads' HO_3.out).1; omega) | simpa using h_); obtain ⟨ve19_1, rfl, ge19_1⟩ := k40_openM hM19; have HP19 := Kd.S_seg hH19 (od) (by have h_ : (t611 : Int) < ((t605.length : Int) : Int) := od; first | exact h_ | (have e_ := (Kd.S_reads' HO_3.out).1; omega) | simpa using h_) (seg := [.string t614, (.slice Aq616 t615.length cq616 : Value)]) (j := 0) (show 2 ≤ 2 from by decide) (x' := (⟨t614, t615⟩ : S40)) (k40_mkM _ _ _ (⟨t614, t615⟩ : S40) (Kd.R_mono (Kd.R_tight rfl (Kd.R_mono (ok' := fun k_ => ((fun _ => True)) k_ ∧ k_ ≠ go15) (Kd.R_apart' (HO617.out) (Kd.S_typed HO_3.out) (by decide)) (fun k_ hk => ⟨trivial, fun e_ => (hk.2) (by rw [e_]; rfl)⟩))) (fun _ h_ => Or.inr (h_)))) (fun _ hk => hk) (fun k_ hk_ => ((Kd.R_mono (ok' := fun k_ => ((fun _ => True)) k_ ∧ k_ ≠ go15) (Kd.R_apart' (HO617.out) (Kd.S_typed HO_3.out) (by decide)) (fun k_ hk => ⟨trivial, fun e_ => (hk.2) (by rw [e_]; rfl)⟩))).1 k_ hk_.symm); have hx19_0 := hcc19 0 _ rfl; (try simp only [show (k40).sz = 2 from rfl, Nat.mul_one, Nat.add_zero] at hx19_0); have hf19_0 := hfr19 0; (try simp only [show (k40).sz = 2 from rfl, Nat.mul_one, Nat.add_zero] at hf19_0); have hx19_1 := hcc19 1 _ rfl; (try simp only [show (k40).sz = 2 from rfl, Nat.mul_one, Nat.add_zero] at hx19_1); have hf19_1 := hfr19 1; (try simp only [show (k40).sz = 2 from rfl, Nat.mul_one, Nat.add_zero] at hf19_1); clear hcl19 hcc19 hfr19 hM19 hoki19 hH19) | ((with_reducible refine gate_store (t := 40) (p := 27) rfl ?_); refine store_event (t := 40) (p := 27) (v := ?vo_w20) (w1 := ((w18.setCell ⟨go15, (t611 : Int).toNat * 2, none⟩ (.string t614)).setCell ⟨go15, (t611 : Int).toNat * 2 + 1, none⟩ ((.slice Aq616 t615.length cq616 : Value)))) ?hg ?ho ?hn ?hr ?_; (case ho => rfl); (case hg => rfl); (case hn => rfl); (case hr => first | (go_simp; done) | (go_simp; rfl)); intro w20 hw; have hg : w18.grownBy w20 (some go15) := (by rw [hw]; exact HP19.2); have hp_ : Kd.S k40 40 w20 w.heap.size (fun _ => True) (.slice (some ⟨go15, 0, none⟩) t605.length co16) y619 := (by rw [hw, Ny619.out]; exact HP19.1); clear HP19; have _ := ra (hp_); have _ := ra (IsS127.grown (qi HI0) hg (IsS127.own_neS HI0.out HO_3.out (by decide))); have _ := ra (Kd.R_after (v := (.slice (some ⟨go15, 0, none⟩) t605.length co16)) (v1 := (.slice (some ⟨go15, 0, none⟩) t605.length co16)) (ok := (fun k_ => some k_ ≠ ((.slice Aq616 t615.length cq616 : Value) : Value).ownBlock)) (by (with_reducible repeat (first | apply Kd.R_alloc | apply Kd.R_drewN | apply Kd.R_drew)); exact Kd.R_mono HL613_1.out (fun _ hk => ⟨hk.2, hk.1.2⟩)) hg (.inl rfl)); have _ := ra ((by rw [hw]; exact below_set (below_set (HB.out) (Nat.le_trans HL.out GB15.out)) (Nat.le_trans HL.out GB15.out) : Below w0.heap.size w0 w20)); have _ := ra (KeepBut.trans (qk _ _ _ HK) (KeepBut.of_grown hg g) (Kd.S_base2 HO_3.out)); clear HO_3 HI0 HL613_1 HB HK HO617; rename_i HO_3 HI0 HL613_1 HB HK; clear hg hw hp_))
      go_ret
      exact ⟨_, re, by (with_reducible repeat (first | apply Kd.S_alloc | apply Kd.S_drewN | apply Kd.S_drew)); exact HO_3.out, by exact qi HI0, by exact qb HI0 HB, by exact qk _ _ _ HK⟩
     ·rw [if_neg c13] at H
      exact absurd H (by simp)
    ·rw [if_neg c12] at H
     exact absurd H (by simp)
   ·replace c10 := Bool.eq_false_iff.mpr c10
    subst c10
    have H1 : (some (t605, x1001_2)) = some (r1, r2) := by rw [if_neg (show ¬ (false = true) by decide)] at H; exact H
    clear H
    have H := H1
    clear H1
    simp only [Option.some.injEq, Prod.mk.injEq] at H
    obtain ⟨rfl, rfl⟩ := H
    go_wp2
    go_ret
    exact ⟨_, re, by (with_reducible repeat (first | apply Kd.S_alloc | apply Kd.S_drewN | apply Kd.S_drew)); exact HO_3.out, by exact qi HI0, by exact qb HI0 HB, by exact qk _ _ _ HK⟩
attribute [local go_sem high] eqA49
set_option maxHeartbeats 8000000 in
set_option maxRecDepth 100000 in
theorem spec_DrawProbeAll.calls (k : Nat) (A0 : Option Addr) (c0 : Nat) (l0 : List Int) (r : List (S40)) (w : World) (hr0 : Kd.C (Kd.int .u8) w A0 l0.length l0) (hc0 : l0.length ≤ c0) (h : spec_DrawProbeAll.f k l0 = some r) :
  Calls Try.prog 24 #[.slice A0 l0.length c0] w fun e w' => ∃ v0_ : Value, e = .returned (v0_) ∧ Kd.S k40 40 w' w.heap.size (fun _ => True) v0_ r ∧ Below w.heap.size w w' := by
 have HR0 := Aside0.mk hr0
 have HC0 := Aside0.mk hc0
 clear hr0 hc0
 have HB := ra (Below.refl w.heap.size w)
 have H : ((spec_l1Open.f l0).bind fun bt623 => ((spec_l2AnySky.f k bt623.1 bt623.2).bind fun bt626 => (some bt626.1))) = some r := h
 clear h
 obtain ⟨⟨t623, t624⟩, A2, H⟩ := bo H
 try dsimp only at H
 obtain ⟨⟨t626, t629⟩, A3, H⟩ := bo H
 try dsimp only at H
 obtain rfl := Option.some.inj H
 go_enter Try.func24, Try.ntmps24
 go_wp2_with (first | ((with_reducible refine gate_callee (f := 57) rfl ?_); refine gl (some 4) Try.func57 #[.slice A0 l0.length c0] ?_; (with_reducible refine (spec_l1Open.calls _ _ l0 t623 t624 w _ ?side1 ?side2 ?side3 A2.out).mono ?_); (case side1 => repeat (first | (with_reducible first | exact HB.out | apply below_alloc | apply pw_below_drewN | apply below_drew1) | exact HB.out)); (case side2 => exact HR0.out); (case side3 => exact HC0.out); rintro e w4 ⟨g625, rfl, hi, hb, hb2⟩; refine ⟨_, rfl, ?_⟩; have _ := ra (hb); have _ := ra (hi); clear HB; rename_i HB HI625; (try clear hb); (try clear hb2); (try clear hk); (try clear hi)) | ((with_reducible refine gate_callee (f := 56) rfl ?_); refine gl (some 5) Try.func56 #[.pointer (some ⟨g625, 0, none⟩)] ?_; (with_reducible refine (spec_l2AnySky.calls k g625 t623 t624 t626 t629 w _ ?side1 ?side2 A3.out).mono ?_); (case side1 => exact qi HI625); (case side2 => exact qb HI625 HB); rintro e w5 ⟨v627, rfl, ho0, hi, hb, hk⟩; refine ⟨_, rfl, ?_⟩; have _ := ra (Kd.S_lower ho0 (below_size (qb HI625 HB))); have _ := ra (hb); have _ := ra (hi); clear HB HI625; rename_i HO628 HB HI625; (try clear hb); (try clear hb2); (try clear hk); (try clear hi); (try clear ho0)))
 go_ret
 exact ⟨_, re, by (with_reducible repeat (first | apply Kd.S_alloc | apply Kd.S_drewN | apply Kd.S_drew)); exact HO628.out, by exact qb HI625 HB⟩
end Go.Proofs.Ytdbomnhdpniigaa.PA
