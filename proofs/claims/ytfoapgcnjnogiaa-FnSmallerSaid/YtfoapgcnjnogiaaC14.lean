/- Contracts of the functions laws_FnSmaller. (Began as a print of the kit's tool.) -/
import Derived.Test.YtfoapgcnjnogiaaPAd
import Derived.Test.YtfoapgcnjnogiaaCx
import Derived.Test.YtfoapgcnjnogiaaCy
import Derived.Test.YtfoapgcnjnogiaaC47
import Derived.Test.YtfoapgcnjnogiaaGSmall
import Derived.Test.YtfoapgcnjnogiaaGSmall
import Derived.Test.YtfoapgcnjnogiaaGBase
import Derived.Test.YtfoapgcnjnogiaaC48
import Derived.Test.YtfoapgcnjnogiaaGWith
namespace Go.Proofs.Ytfoapgcnjnogiaa.PA
open Go.RowKit Go.Proofs.YtfoapgcnjnogiaaW.PrintWords Go.Proofs.YtfoapgcnjnogiaaW.PrintLast Go.Proofs.YtfoapgcnjnogiaaW.PrintMore Go.Proofs.Ytfoapgcnjnogiaa.Z
attribute [local go_sem] max2_int min2_int max_two min_two max_three min_three max_four min_four
set_option linter.unusedVariables false
set_option linter.unusedSimpArgs false
def laws_FnSmaller.T5 : Bool × List (List Nat × List Nat) := (true, [([], []), ([], []), ([], []), ([1, 2], [1, 2]), ([0, 3], [0, 3]), ([4, 3], [4]), ([5], [5]), ([5], [5]), ([6, 7, 5, 5], [5, 6, 7]), ([5], [5]), ([9, 8, 5], [5, 9]), ([8, 10, 5], [5, 8, 10]), ([5, 11], [5, 11])])
def laws_FnSmaller.B5 : List Nat := [0, 0, 0, 6, 15, 31, 63, 63, 255, 63, 1023, 2047, 4095]
theorem laws_FnSmaller.tab5 : rtab .any (opsOf Try.f14 5) = laws_FnSmaller.T5 := by kernel_rfl
theorem laws_FnSmaller.bits5 : waitsOk laws_FnSmaller.T5.2 laws_FnSmaller.B5 = true := by kernel_rfl
set_option maxHeartbeats 8000000 in
set_option maxRecDepth 100000 in
theorem laws_FnSmaller.calls (k : Nat) (A0 : Option Addr) (c0 : Nat) (l0 : List Int) (A1 : Option Addr) (c1 : Nat) (l1 : List Int) (w : World) (hr0 : Kd.C (Kd.int .u8) w A0 l0.length l0) (hc0 : l0.length ≤ c0) (hr1 : Kd.C (Kd.int .u8) w A1 l1.length l1) (hc1 : l1.length ≤ c1) (h : laws_FnSmaller.f k l0 l1 = some true) :
  Calls Try.prog 14 #[.slice A0 l0.length c0, .slice A1 l1.length c1] w fun e w' => e = .returned (.bool true) ∧ Below w.heap.size w w' := by
 have hu39 := Try.underlying39
 have HR0 := Aside0.mk hr0
 have HC0 := Aside0.mk hc0
 clear hr0 hc0
 have HR1 := Aside0.mk hr1
 have HC1 := Aside0.mk hc1
 clear hr1 hc1
 have HB := ra (Below.refl w.heap.size w)
 have H : (if (l0.length : Int) > 1048576 then (laws_FnSmaller.j0 k l0 l1 true) else (laws_FnSmaller.j0 k l0 l1 (decide ((l1.length : Int) > 1048576)))) = some true := h
 clear h
 have HC3 := Aside0.mk H
 clear H
 go_enter Try.func14, Try.ntmps14
 go_upto_region 1 with (fail)
 go_cut [19] (fun v19 wc => ∃ (kq : Nat) (x19_2 : Bool), v19 = .bool x19_2 ∧ Aside0 (laws_FnSmaller.j0 kq l0 l1 x19_2 = some true) ∧ Aside0 (kq ≤ k) ∧ Aside0 (Below w.heap.size w wc))
 case first =>
  have H := HC3.out
  clear HC3
  by_cases c4 : (l0.length : Int) > 1048576
  ·rw [if_pos c4] at H
   have c4b0 : decide (1048576 < (l0.length : Int)) = true := decide_eq_true c4
   have c4b1 : decide (1048576 < l0.length) = true := decide_eq_true (by omega)
   clear c4
   (first | rw [c4b0] | (simp only [i64_w, i32_w]; rw [c4b0]) | skip)
   have H' := Aside0.mk H
   clear H
   go_wp2
   go_meet
   case rel => exact ⟨_, (true), rs, H', ⟨by first | omega | exact Nat.le_refl _⟩, ⟨bq⟩⟩
  ·rw [if_neg c4] at H
   have c4b0 : decide (1048576 < (l0.length : Int)) = false := decide_eq_false c4
   have c4b1 : decide (1048576 < l0.length) = false := decide_eq_false (by omega)
   clear c4
   (first | rw [c4b0] | (simp only [i64_w, i32_w]; rw [c4b0]) | skip)
   have H' := Aside0.mk H
   clear H
   go_wp2
   go_meet
   case rel => exact ⟨_, (decide ((l1.length : Int) > 1048576)), rs, H', ⟨by first | omega | exact Nat.le_refl _⟩, ⟨bq⟩⟩
 case rest =>
  clear HC3
  try clear c1
  try clear c4
  try clear c4b0
  try clear c4b1
  obtain ⟨kq, x19_2, rfl, HA, HJ2, HB⟩ := hcut
  cases kq with
  | zero => exact absurd HA.out (by simp [laws_FnSmaller.j0])
  | succ kj2 =>
   have H := HA.out
   clear HA
   simp only [laws_FnSmaller.j0] at H
   by_cases c5 : x19_2 = true
   ·subst c5
    have H1 : (some true) = some true := rfl
    clear H
    have H := H1
    clear H1 H
    go_wp2
    go_ret
    exact ⟨re, bq⟩
   ·replace c5 := Bool.eq_false_iff.mpr c5
    subst c5
    have H1 : ((spec_DrawProbeSmaller.f kj2 l0).bind fun bt1013 => ((impl_ProbeSmaller.f kj2 bt1013.1 bt1013.2.1 bt1013.2.2.1 bt1013.2.2.2).bind fun t1023 => ((spec_ProbeSmaller.f kj2 bt1013.1 bt1013.2.1 bt1013.2.2.1 bt1013.2.2.2).bind fun t1024 => (if (t1023 != t1024) = true then (laws_FnSmaller.j1 kj2 l1 true bt1013.1 bt1013.2.1 bt1013.2.2.1 bt1013.2.2.2) else ((impl_ProbeSmaller.f kj2 bt1013.1 bt1013.2.1 bt1013.1 bt1013.2.1).bind fun t1025 => ((spec_ProbeTubeOk.f kj2 bt1013.1 bt1013.2.1).bind fun t1026 => (laws_FnSmaller.j1 kj2 l1 (t1025 != t1026) bt1013.1 bt1013.2.1 bt1013.2.2.1 bt1013.2.2.2))))))) = some true := by rw [if_neg (show ¬ (false = true) by decide)] at H; exact H
    clear H
    have H := H1
    clear H1
    obtain ⟨⟨t1013, t1014, t1017, t1018⟩, A6, H⟩ := bo H
    try dsimp only at H
    obtain ⟨t1023, A7, H⟩ := bo H
    have HC8 := Aside0.mk H
    clear H
    go_upto_region 5 with (first | ((with_reducible refine gate_callee (f := 47) rfl ?_); refine gl (some 22) Try.func47 #[.slice A0 l0.length c0] ?_; (with_reducible refine (spec_DrawProbeSmaller.calls kj2 _ _ l0 t1013 t1014 t1017 t1018 _ ?side1 ?side2 A6.out).mono ?_); (case side1 => exact sc HR0); (case side2 => exact HC0.out); rintro e w9 ⟨v1015, v1019, rfl, ho0, ho1, hb⟩; refine ⟨_, rfl, ?_⟩; have _ := ra (Kd.R_lower ho0 (below_size bq)); have _ := ra (Kd.R_lower ho1 (below_size bq)); have _ := bs hb; clear HB; rename_i HO1016 HO1020 HB; (try clear hb); (try clear hb2); (try clear hk); (try clear hi); (try clear ho0); (try clear ho1)) | ((with_reducible refine gate_dst (N := 5) rfl ?_); (try (refine gate_guard (by rfl) ?_; dsimp only)); refine be 5 #[.string (⟨#[]⟩ : ByteArray), .slice none 0 0] 39 ?_; intro gb1021 hg w10 hbox hb; have _ := ra (Kd.R_below (rq HO1016) hb); have _ := ra (Kd.R_below (rq HO1020) hb); have _ := bs hb; have _ := ra (hbox); have _ := bz (w0 := w) hg; have _ := bz (w0 := w) hg; clear HO1016 HO1020 HB; rename_i HO1016 HO1020 HB BK1021 GW1021 GE1021; clear hb hbox hg) | ((with_reducible refine gate_dst (N := 6) rfl ?_); (try (refine gate_guard (by rfl) ?_; dsimp only)); refine be 6 #[.string (⟨#[]⟩ : ByteArray), .slice none 0 0] 39 ?_; intro gb1022 hg w11 hbox hb; have _ := ra (Kd.R_below (rq HO1016) hb); have _ := ra (Kd.R_below (rq HO1020) hb); have _ := bb (bk BK1021) hb; have _ := bs hb; have _ := ra (hbox); have _ := bz (w0 := w) hg; have _ := bz (w0 := w) hg; have _ := bn hg (bk BK1021); have _ := bm hg (bk BK1021); clear HO1016 HO1020 BK1021 HB; rename_i HO1016 HO1020 BK1021 HB BK1022 GW1022 GE1022 NB1021_1022 NB1022_1021; clear hb hbox hg; have hnb12 := NB1021_1022.out; have hnc12 := NB1022_1021.out; obtain ⟨hcz13_0, hcz13_1, hfz13_0, hfz13_1⟩ := zc2 BK1021; obtain ⟨Ao14, co14, eo14⟩ := Kd.R_slice HO1016.out; subst eo14; obtain ⟨hcz15_0, hcz15_1, hfz15_0, hfz15_1⟩ := zc2 BK1022; obtain ⟨Ao16, co16, eo16⟩ := Kd.R_slice HO1020.out; subst eo16) | ((with_reducible refine gate_callee (f := 26) rfl ?_); refine gl (some 27) Try.func26 #[.agg #[.string t1013, .slice Ao14 t1014.length co14], .agg #[.string t1017, .slice Ao16 t1018.length co16]] ?_; (with_reducible refine (impl_ProbeSmaller.calls kj2 t1013 _ _ t1014 t1017 _ _ t1018 t1023 _ ?side1 ?side2 ?side3 ?side4 A7.out).mono ?_); (case side1 => refine (Kd.R_reads' (e := 26) (base := w.heap.size) (ok := fun k_ => some k_ ≠ (.slice Ao16 t1018.length co16 : Value).ownBlock) (n := t1014.length) (c := co14) ?_).2.2; exact (Kd.R_mono (Kd.R_mono (rf (Kd.R_types (Kd.R_types HO1016.out BK1021.out (by decide)) BK1022.out (by decide))) (fun _ h_ => h_.1)) (fun _ h_ => h_.1))); (case side2 => exact (Kd.R_reads' HO1016.out).2.1); (case side3 => refine (Kd.R_reads' (e := 26) (base := w.heap.size) (ok := fun k_ => some k_ ≠ (.slice Ao14 t1014.length co14 : Value).ownBlock) (n := t1018.length) (c := co16) ?_).2.2; exact (Kd.R_mono (Kd.R_mono (rf (Kd.R_types (Kd.R_types HO1020.out BK1021.out (by decide)) BK1022.out (by decide))) (fun _ h_ => h_.1)) (fun _ h_ => h_.1))); (case side4 => exact (Kd.R_reads' HO1020.out).2.1); rintro e w17 ⟨rfl, hb⟩; refine ⟨_, rfl, ?_⟩; have _ := ra (Kd.R_below (Kd.R_mono (Kd.R_mono (rf (Kd.R_types (Kd.R_types HO1016.out BK1021.out (by decide)) BK1022.out (by decide))) (fun _ h_ => h_.1)) (fun _ h_ => h_.1)) hb); have _ := ra (Kd.R_below (Kd.R_mono (Kd.R_mono (rf (Kd.R_types (Kd.R_types HO1020.out BK1021.out (by decide)) BK1022.out (by decide))) (fun _ h_ => h_.1)) (fun _ h_ => h_.1)) hb); have _ := bb (o := .cells #[.string t1013, .slice Ao14 t1014.length co14] 39 (0, 0)) (bp BK1021) hb; have _ := bb (o := .cells #[.string t1017, .slice Ao16 t1018.length co16] 39 (0, 0)) (bp BK1022) hb; have _ := bs hb; clear HO1016 HO1020 BK1021 BK1022 HB; rename_i HO1016 HO1020 BK1021 BK1022 HB; (try clear hb); (try clear hb2); (try clear hk); (try clear hi)))
    (try simp only [Act.put, List.setIfInBounds_toArray, List.set_cons_zero, List.set_cons_succ])
    go_cut [40] (fun v40 wc => ∃ (kq : Nat) (x40_7 : Bool), v40 = .bool x40_7 ∧ Aside0 (laws_FnSmaller.j1 kq l1 x40_7 t1013 t1014 t1017 t1018 = some true) ∧ Aside0 (kq ≤ kj2) ∧ Aside0 (Kd.R k26 26 wc w.heap.size (fun k_ => some k_ ≠ ((.slice Ao16 t1018.length co16) : Value).ownBlock) (.slice Ao14 t1014.length co14) t1014) ∧ Aside0 (Kd.R k26 26 wc w.heap.size (fun k_ => some k_ ≠ ((.slice Ao14 t1014.length co14) : Value).ownBlock) (.slice Ao16 t1018.length co16) t1018) ∧ Aside0 (wc.heap[gb1021]? = some (.cells #[.string t1013, (.slice Ao14 t1014.length co14)] 39 (0, 0))) ∧ Aside0 (wc.heap[gb1022]? = some (.cells #[.string t1017, (.slice Ao16 t1018.length co16)] 39 (0, 0))) ∧ Aside0 (Below w.heap.size w wc))
    case first =>
     have H := HC8.out
     clear HC8
     obtain ⟨t1024, A18, H⟩ := bo H
     by_cases c19 : (t1023 != t1024) = true
     ·rw [if_pos c19] at H
      have c19b0 : (t1023 != t1024) = true := c19
      (try (have c19b1 : decide (t1023 = t1024) = false := by simpa using c19))
      (try (have c19b2 : (t1023 == t1024) = false := by simpa using c19))
      (try (have c19b3 : ¬ (t1023 = t1024) := by simpa using c19))
      clear c19
      (first | rw [c19b0] | (simp only [i64_w, i32_w]; rw [c19b0]) | skip)
      have H' := Aside0.mk H
      clear H
      try go_wp2
      have _ := ra (Kd.R_drew HO1016.out)
      have _ := ra (Kd.R_drew HO1020.out)
      have _ := ra (blk_drew BK1021.out)
      have _ := ra (blk_drew BK1022.out)
      have _ := ra (below_drew1 HB.out)
      clear HO1016 HO1020 BK1021 BK1022 HB
      rename_i HO1016 HO1020 BK1021 BK1022 HB
      refine start_ (n := 13) (S := fun w' => w'.cell? ⟨gb1021, 0, none⟩ = some (.string t1013) ∧ w'.cell? ⟨gb1021, 1, none⟩ = some (.slice Ao14 t1014.length co14) ∧ w'.cell? ⟨gb1022, 0, none⟩ = some (.string t1017) ∧ w'.cell? ⟨gb1022, 1, none⟩ = some (.slice Ao16 t1018.length co16)) (ds := []) (bl 13 0) (by kernel_rfl) rfl rfl ⟨(blk_cell BK1021.out 0).trans rfl, (blk_cell BK1021.out 1).trans rfl, (blk_cell BK1022.out 0).trans rfl, (blk_cell BK1022.out 1).trans rfl⟩ (fun hHeld => ?_); refine with_tabW laws_FnSmaller.tab5 laws_FnSmaller.bits5 (fun HT_ HW_ => ?_)
      generalize w17.drew = w20 at HO1016 HO1020 BK1021 BK1022 HB hHeld ⊢
      refine pu 0 28 (bl 13 1) ?_
      refine tk 1 29 (bl 13 3) ?_ hHeld
      refine tk 2 30 (bl 13 7) ?_ hHeld
      refine oe 3 31 (bl 13 15) (fun K hK => ?_)
      refine gs Try.func25 #[.agg #[.string t1013, .slice Ao14 t1014.length co14], .agg #[.string t1017, .slice Ao16 t1018.length co16]] ?_
      with_reducible refine (spec_ProbeSmaller.calls kj2 t1013 _ _ t1014 t1017 _ _ t1018 t1024 _ ?side1 ?side2 ?side3 ?side4 A18.out).mono ?_
      (case side1 => exact sr HO1016)
      (case side2 => exact (Kd.R_reads' HO1016.out).2.1)
      (case side3 => exact sr HO1020)
      (case side4 => exact (Kd.R_reads' HO1020.out).2.1)
      rintro e w21 ⟨rfl, hb⟩
      refine ⟨_, rfl, ?_⟩
      have _ := ra (Kd.R_below (rq HO1016) hb)
      have _ := ra (Kd.R_below (rq HO1020) hb)
      have _ := bb (bk BK1021) hb
      have _ := bb (bk BK1022) hb
      have _ := bs hb
      clear HO1016 HO1020 BK1021 BK1022 HB
      rename_i HO1016 HO1020 BK1021 BK1022 HB
      (try clear hb)
      (try clear hb2)
      (try clear hk)
      (try clear hi)
      refine hK.out _ _ ⟨(blk_cell BK1021.out 0).trans rfl, (blk_cell BK1021.out 1).trans rfl, (blk_cell BK1022.out 0).trans rfl, (blk_cell BK1022.out 1).trans rfl⟩ (fun hHeld => ?_)
      clear hK K
      refine nm 31 ?_
      refine pu 4 32 (bl 13 31) ?_
      refine pu 5 33 (bl 13 63) ?_
      refine pv 6 34 (bl 13 127) ?_
      refine pv 7 35 (bl 13 255) ?_
      refine pv 8 36 (bl 13 511) ?_
      refine pv 9 37 (bl 13 1023) ?_
      refine pv 10 38 (bl 13 2047) ?_
      refine pv 11 39 (bl 13 4095) ?_
      refine pu 12 40 (bl 13 8191) ?_
      refine done_ (done_of HT_.out (by kernel_rfl)) ?_
      try go_wp2
      go_meet
      case rel => exact ⟨_, (true), rs, H', ⟨by have := HJ2.out; first | omega | exact Nat.le_refl _⟩, ⟨rq HO1016⟩, ⟨rq HO1020⟩, ⟨bk BK1021⟩, ⟨bk BK1022⟩, ⟨bq⟩⟩
     ·rw [if_neg c19] at H
      have c19b0 : (t1023 != t1024) = false := by simpa using c19
      (try (have c19b1 : decide (t1023 = t1024) = true := by simpa using c19))
      (try (have c19b2 : (t1023 == t1024) = true := by simpa using c19))
      clear c19
      (first | rw [c19b0] | (simp only [i64_w, i32_w]; rw [c19b0]) | skip)
      obtain ⟨t1025, A22, H⟩ := bo H
      obtain ⟨t1026, A23, H⟩ := bo H
      have H' := Aside0.mk H
      clear H
      try go_wp2
      have _ := ra (Kd.R_drew HO1016.out)
      have _ := ra (Kd.R_drew HO1020.out)
      have _ := ra (blk_drew BK1021.out)
      have _ := ra (blk_drew BK1022.out)
      have _ := ra (below_drew1 HB.out)
      clear HO1016 HO1020 BK1021 BK1022 HB
      rename_i HO1016 HO1020 BK1021 BK1022 HB
      refine start_ (n := 13) (S := fun w' => w'.cell? ⟨gb1021, 0, none⟩ = some (.string t1013) ∧ w'.cell? ⟨gb1021, 1, none⟩ = some (.slice Ao14 t1014.length co14) ∧ w'.cell? ⟨gb1022, 0, none⟩ = some (.string t1017) ∧ w'.cell? ⟨gb1022, 1, none⟩ = some (.slice Ao16 t1018.length co16)) (ds := []) (bl 13 0) (by kernel_rfl) rfl rfl ⟨(blk_cell BK1021.out 0).trans rfl, (blk_cell BK1021.out 1).trans rfl, (blk_cell BK1022.out 0).trans rfl, (blk_cell BK1022.out 1).trans rfl⟩ (fun hHeld => ?_); refine with_tabW laws_FnSmaller.tab5 laws_FnSmaller.bits5 (fun HT_ HW_ => ?_)
      generalize w17.drew = w24 at HO1016 HO1020 BK1021 BK1022 HB hHeld ⊢
      refine pu 0 28 (bl 13 1) ?_
      refine tk 1 29 (bl 13 3) ?_ hHeld
      refine tk 2 30 (bl 13 7) ?_ hHeld
      refine oe 3 31 (bl 13 15) (fun K hK => ?_)
      refine gs Try.func25 #[.agg #[.string t1013, .slice Ao14 t1014.length co14], .agg #[.string t1017, .slice Ao16 t1018.length co16]] ?_
      with_reducible refine (spec_ProbeSmaller.calls kj2 t1013 _ _ t1014 t1017 _ _ t1018 t1024 _ ?side1 ?side2 ?side3 ?side4 A18.out).mono ?_
      (case side1 => exact sr HO1016)
      (case side2 => exact (Kd.R_reads' HO1016.out).2.1)
      (case side3 => exact sr HO1020)
      (case side4 => exact (Kd.R_reads' HO1020.out).2.1)
      rintro e w25 ⟨rfl, hb⟩
      refine ⟨_, rfl, ?_⟩
      have _ := ra (Kd.R_below (rq HO1016) hb)
      have _ := ra (Kd.R_below (rq HO1020) hb)
      have _ := bb (bk BK1021) hb
      have _ := bb (bk BK1022) hb
      have _ := bs hb
      clear HO1016 HO1020 BK1021 BK1022 HB
      rename_i HO1016 HO1020 BK1021 BK1022 HB
      (try clear hb)
      (try clear hb2)
      (try clear hk)
      (try clear hi)
      refine hK.out _ _ ⟨(blk_cell BK1021.out 0).trans rfl, (blk_cell BK1021.out 1).trans rfl, (blk_cell BK1022.out 0).trans rfl, (blk_cell BK1022.out 1).trans rfl⟩ (fun hHeld => ?_)
      clear hK K
      refine nm 31 ?_
      refine pu 4 32 (bl 13 31) ?_
      refine pu 5 33 (bl 13 63) ?_
      refine tk 6 34 (bl 13 127) ?_ hHeld
      refine tk 7 35 (bl 13 255) ?_ hHeld
      refine tk 9 37 (bl 13 767) ?_ hHeld
      refine oe 8 36 (bl 13 1023) (fun K hK => ?_)
      refine gs Try.func26 #[.agg #[.string t1013, .slice Ao14 t1014.length co14], .agg #[.string t1013, .slice Ao14 t1014.length co14]] ?_
      with_reducible refine (impl_ProbeSmaller.calls kj2 t1013 _ _ t1014 t1013 _ _ t1014 t1025 _ ?side1 ?side2 ?side3 ?side4 A22.out).mono ?_
      (case side1 => exact sr HO1016)
      (case side2 => exact (Kd.R_reads' HO1016.out).2.1)
      (case side3 => exact sr HO1016)
      (case side4 => exact (Kd.R_reads' HO1016.out).2.1)
      rintro e w26 ⟨rfl, hb⟩
      refine ⟨_, rfl, ?_⟩
      have _ := ra (Kd.R_below (rq HO1016) hb)
      have _ := ra (Kd.R_below (rq HO1020) hb)
      have _ := bb (bk BK1021) hb
      have _ := bb (bk BK1022) hb
      have _ := bs hb
      clear HO1016 HO1020 BK1021 BK1022 HB
      rename_i HO1016 HO1020 BK1021 BK1022 HB
      (try clear hb)
      (try clear hb2)
      (try clear hk)
      (try clear hi)
      refine hK.out _ _ ⟨(blk_cell BK1021.out 0).trans rfl, (blk_cell BK1021.out 1).trans rfl, (blk_cell BK1022.out 0).trans rfl, (blk_cell BK1022.out 1).trans rfl⟩ (fun hHeld => ?_)
      clear hK K
      refine nm 36 ?_
      refine oe 10 38 (bl 13 2047) (fun K hK => ?_)
      refine gs Try.func21 #[.agg #[.string t1013, .slice Ao14 t1014.length co14]] ?_
      with_reducible refine (spec_ProbeTubeOk.calls kj2 t1013 _ _ t1014 t1026 _ ?side1 ?side2 A23.out).mono ?_
      (case side1 => exact sr HO1016)
      (case side2 => exact (Kd.R_reads' HO1016.out).2.1)
      rintro e w27 ⟨rfl, hb⟩
      refine ⟨_, rfl, ?_⟩
      have _ := ra (Kd.R_below (rq HO1016) hb)
      have _ := ra (Kd.R_below (rq HO1020) hb)
      have _ := bb (bk BK1021) hb
      have _ := bb (bk BK1022) hb
      have _ := bs hb
      clear HO1016 HO1020 BK1021 BK1022 HB
      rename_i HO1016 HO1020 BK1021 BK1022 HB
      (try clear hb)
      (try clear hb2)
      (try clear hk)
      (try clear hi)
      refine hK.out _ _ ⟨(blk_cell BK1021.out 0).trans rfl, (blk_cell BK1021.out 1).trans rfl, (blk_cell BK1022.out 0).trans rfl, (blk_cell BK1022.out 1).trans rfl⟩ (fun hHeld => ?_)
      clear hK K
      refine nm 38 ?_
      refine pu 11 39 (bl 13 4095) ?_
      refine pu 12 40 (bl 13 8191) ?_
      refine done_ (done_of HT_.out (by kernel_rfl)) ?_
      try go_wp2
      go_meet
      case rel => exact ⟨_, ((t1025 != t1026)), rs, H', ⟨by have := HJ2.out; first | omega | exact Nat.le_refl _⟩, ⟨rq HO1016⟩, ⟨rq HO1020⟩, ⟨bk BK1021⟩, ⟨bk BK1022⟩, ⟨bq⟩⟩
    case rest =>
     clear HC8
     try clear c1
     try clear c4
     try clear c4b0
     try clear c4b1
     try clear c5
     try clear c19
     try clear c19b0
     try clear c19b1
     try clear c19b2
     try clear hcz13_0
     try clear hcz13_1
     try clear hcz15_0
     try clear hcz15_1
     try clear hfz13_0
     try clear hfz13_1
     try clear hfz15_0
     try clear hfz15_1
     obtain ⟨kq, x40_7, rfl, HA, HJ7, HO_1022001, HO_1023001, BK1021, BK1022, HB⟩ := hcut
     cases kq with
     | zero => exact absurd HA.out (by simp [laws_FnSmaller.j1])
     | succ kj7 =>
      have H := HA.out
      clear HA
      simp only [laws_FnSmaller.j1] at H
      by_cases c28 : x40_7 = true
      ·subst c28
       have H1 : (some false) = some true := by rw [if_pos rfl] at H; exact H
       clear H
       have H := H1
       exact absurd (Option.some.inj H) (by decide)
      ·replace c28 := Bool.eq_false_iff.mpr c28
       subst c28
       have H1 : ((spec_DrawProbeWith.f kj7 l1).bind fun bt1027 => ((spec_ProbeSmaller.f kj7 t1013 t1014 t1017 t1018).bind fun t1035 => (if t1035 = true then ((impl_ProbeFree.f kj7 bt1027.1 t1017 t1018).bind fun t1036 => (if t1036 = true then (if t1013.toList = t1017.toList then ((impl_ProbeFree.f kj7 bt1027.1 t1013 t1014).bind fun t1037 => (laws_FnSmaller.j2 kj7 l1 (!t1037) t1013 t1014 t1017 t1018)) else (laws_FnSmaller.j2 kj7 l1 false t1013 t1014 t1017 t1018)) else (laws_FnSmaller.j2 kj7 l1 false t1013 t1014 t1017 t1018))) else (some true)))) = some true := by rw [if_neg (show ¬ (false = true) by decide)] at H; exact H
       clear H
       have H := H1
       clear H1
       obtain ⟨⟨t1027, t1030, t1031⟩, A29, H⟩ := bo H
       try dsimp only at H
       obtain ⟨t1035, A30, H⟩ := bo H
       by_cases c31 : t1035 = true
       ·subst c31
        replace H := it H rfl
        have HC32 := Aside0.mk H
        clear H
        go_upto_region 10 with (first | ((with_reducible refine gate_callee (f := 48) rfl ?_); refine gl (some 43) Try.func48 #[.slice A1 l1.length c1] ?_; (with_reducible refine (spec_DrawProbeWith.calls kj7 _ _ l1 t1027 t1030 t1031 _ ?side1 ?side2 A29.out).mono ?_); (case side1 => exact sc HR1); (case side2 => exact HC1.out); rintro e w33 ⟨v1028, v1032, rfl, ho0, ho1, hb⟩; refine ⟨_, rfl, ?_⟩; have _ := ra (Kd.R_elder' (rq HO_1022001) (Kd.R_base ho1) hb); have _ := ra (Kd.R_elder' (rq HO_1023001) (Kd.R_base ho1) hb); have _ := ra (Kd.S_lower (Kd.S_newB (Kd.S_newB (Kd.S_new' (Kd.S_new' ho0 (Kd.R_lt (rq HO_1022001))) (Kd.R_lt (rq HO_1023001))) (g := gb1021) (o := .cells #[.string t1013, .slice Ao14 t1014.length co14] 39 (0, 0)) (bk BK1021)) (g := gb1022) (o := .cells #[.string t1017, .slice Ao16 t1018.length co16] 39 (0, 0)) (bk BK1022)) (below_size bq)); have _ := ra (Kd.R_lower (Kd.R_new' (Kd.R_new' ho1 (Kd.R_lt (rq HO_1022001))) (Kd.R_lt (rq HO_1023001))) (below_size bq)); have _ := bb (bk BK1021) hb; have _ := bb (bk BK1022) hb; have _ := bs hb; clear HO_1022001 HO_1023001 BK1021 BK1022 HB; rename_i HO_1022001 HO_1023001 HO1029 HO1033 BK1021 BK1022 HB; (try clear hb); (try clear hb2); (try clear hk); (try clear hi); (try clear ho0); (try clear ho1)) | ((with_reducible refine gate_dst (N := 9) rfl ?_); (try (refine gate_guard (by rfl) ?_; dsimp only)); refine be 9 #[.string (⟨#[]⟩ : ByteArray), .slice none 0 0] 39 ?_; intro gb1034 hg w34 hbox hb; have _ := ra (Kd.R_below (rq HO_1022001) hb); have _ := ra (Kd.R_below (rq HO_1023001) hb); have _ := ra (Kd.S_below (Kd.S_elderB (by (with_reducible repeat (first | apply Kd.S_alloc | apply Kd.S_drewN | apply Kd.S_drew)); exact HO1029.out) gb1034 (Nat.le_of_eq hg.symm)) hb); have _ := ra (Kd.R_below (rq HO1033) hb); have _ := bb (bk BK1021) hb; have _ := bb (bk BK1022) hb; have _ := bs hb; have _ := ra (hbox); have _ := bz (w0 := w) hg; have _ := bz (w0 := w) hg; have _ := bn hg (bk BK1021); have _ := bm hg (bk BK1021); have _ := bn hg (bk BK1022); have _ := bm hg (bk BK1022); clear HO_1022001 HO_1023001 HO1029 HO1033 BK1021 BK1022 HB; rename_i HO_1022001 HO_1023001 HO1029 HO1033 BK1021 BK1022 HB BK1034 GW1034 GE1034 NB1021_1034 NB1034_1021 NB1022_1034 NB1034_1022; clear hb hbox hg; have hnb35 := NB1034_1021.out; have hnc35 := NB1021_1034.out; have hnb36 := NB1034_1022.out; have hnc36 := NB1022_1034.out; obtain ⟨hcz37_0, hcz37_1, hfz37_0, hfz37_1⟩ := zc2 BK1034; obtain ⟨Ao38, co38, eo38⟩ := Kd.R_slice HO1033.out; subst eo38; have hnb39 := NB1021_1022.out; have hnc39 := NB1022_1021.out; obtain ⟨hcz40_0, hcz40_1, hfz40_0, hfz40_1⟩ := zc2 BK1021; obtain ⟨hcz41_0, hcz41_1, hfz41_0, hfz41_1⟩ := zc2 BK1022) | ((with_reducible refine gate_callee (f := 25) rfl ?_); refine gl (some 48) Try.func25 #[.agg #[.string t1013, .slice Ao14 t1014.length co14], .agg #[.string t1017, .slice Ao16 t1018.length co16]] ?_; (with_reducible refine (spec_ProbeSmaller.calls kj7 t1013 _ _ t1014 t1017 _ _ t1018 true _ ?side1 ?side2 ?side3 ?side4 A30.out).mono ?_); (case side1 => refine (Kd.R_reads' (e := 26) (base := w.heap.size) (ok := fun k_ => (some k_ ≠ (.slice Ao16 t1018.length co16 : Value).ownBlock ∧ some k_ ≠ (.slice Ao38 t1031.length co38 : Value).ownBlock)) (n := t1014.length) (c := co14) ?_).2.2; exact (Kd.R_mono (rf (Kd.R_types HO_1022001.out BK1034.out (by decide))) (fun _ h_ => h_.1))); (case side2 => exact (Kd.R_reads' HO_1022001.out).2.1); (case side3 => refine (Kd.R_reads' (e := 26) (base := w.heap.size) (ok := fun k_ => (some k_ ≠ (.slice Ao14 t1014.length co14 : Value).ownBlock ∧ some k_ ≠ (.slice Ao38 t1031.length co38 : Value).ownBlock)) (n := t1018.length) (c := co16) ?_).2.2; exact (Kd.R_mono (rf (Kd.R_types HO_1023001.out BK1034.out (by decide))) (fun _ h_ => h_.1))); (case side4 => exact (Kd.R_reads' HO_1023001.out).2.1); rintro e w42 ⟨rfl, hb⟩; refine ⟨_, rfl, ?_⟩; have _ := ra (Kd.R_below (Kd.R_mono (rf (Kd.R_types HO_1022001.out BK1034.out (by decide))) (fun _ h_ => h_.1)) hb); have _ := ra (Kd.R_below (Kd.R_mono (rf (Kd.R_types HO_1023001.out BK1034.out (by decide))) (fun _ h_ => h_.1)) hb); have _ := ra (Kd.S_below (by (with_reducible repeat (first | apply Kd.S_alloc | apply Kd.S_drewN | apply Kd.S_drew)); exact (Kd.S_mono (Kd.S_far (p := ⟨gb1034, 1, none⟩) (Kd.S_far (p := ⟨gb1034, 0, none⟩) (Kd.S_mono HO1029.out (fun k_ hk => (⟨hk, hk.2⟩ : _ ∧ k_ ≠ gb1034))) (fun _ hk => hk.2) (.string t1030)) (fun _ hk => hk.2) (.slice Ao38 t1031.length co38)) (fun _ h_ => h_.1))) hb); have _ := ra (Kd.R_below (Kd.R_mono (rf (Kd.R_types HO1033.out BK1034.out (by decide))) (fun _ h_ => h_.1)) hb); have _ := bb (bk BK1021) hb; have _ := bb (bk BK1022) hb; have _ := bb (o := .cells #[.string t1030, .slice Ao38 t1031.length co38] 39 (0, 0)) (bp BK1034) hb; have _ := bs hb; clear HO_1022001 HO_1023001 HO1029 HO1033 BK1021 BK1022 BK1034 HB; rename_i HO_1022001 HO_1023001 HO1029 HO1033 BK1021 BK1022 BK1034 HB; (try clear hb); (try clear hb2); (try clear hk); (try clear hi)))
        (try simp only [Act.put, List.setIfInBounds_toArray, List.set_cons_zero, List.set_cons_succ])
        go_cut [65] (fun v65 wc => ∃ (kq : Nat) (x65_31 : Bool), v65 = .bool x65_31 ∧ Aside0 (laws_FnSmaller.j2 kq l1 x65_31 t1013 t1014 t1017 t1018 = some true) ∧ Aside0 (kq ≤ kj7) ∧ Aside0 (Kd.R k26 26 wc w.heap.size (fun k_ => some k_ ≠ ((.slice Ao16 t1018.length co16) : Value).ownBlock ∧ some k_ ≠ ((.slice Ao38 t1031.length co38) : Value).ownBlock) (.slice Ao14 t1014.length co14) t1014) ∧ Aside0 (Kd.R k26 26 wc w.heap.size (fun k_ => some k_ ≠ ((.slice Ao14 t1014.length co14) : Value).ownBlock ∧ some k_ ≠ ((.slice Ao38 t1031.length co38) : Value).ownBlock) (.slice Ao16 t1018.length co16) t1018) ∧ Aside0 (Kd.R k26 26 wc w.heap.size (fun k_ => some k_ ≠ ((.slice Ao14 t1014.length co14) : Value).ownBlock ∧ some k_ ≠ ((.slice Ao16 t1018.length co16) : Value).ownBlock) (.slice Ao38 t1031.length co38) t1031) ∧ Aside0 (wc.heap[gb1021]? = some (.cells #[.string t1013, (.slice Ao14 t1014.length co14)] 39 (0, 0))) ∧ Aside0 (wc.heap[gb1022]? = some (.cells #[.string t1017, (.slice Ao16 t1018.length co16)] 39 (0, 0))) ∧ Aside0 (wc.heap[gb1034]? = some (.cells #[.string t1030, (.slice Ao38 t1031.length co38)] 39 (0, 0))) ∧ Aside0 (Below w.heap.size w wc))
        case first =>
         have H := HC32.out
         clear HC32
         obtain ⟨t1036, A43, H⟩ := bo H
         by_cases c44 : t1036 = true
         ·subst c44
          replace H := it H rfl
          by_cases c45 : t1013.toList = t1017.toList
          ·rw [if_pos c45] at H
           have c45b0 : (t1013.toList == t1017.toList) = true := beq_iff_eq.mpr c45
           have c45b1 : (t1013.toList != t1017.toList) = false := bne_eq_false_iff_eq.mpr c45
           clear c45
           (first | rw [c45b0] | (simp only [i64_w, i32_w]; rw [c45b0]) | skip)
           obtain ⟨t1037, A46, H⟩ := bo H
           have H' := Aside0.mk H
           clear H
           have hnb47 := NB1022_1021.out
           have hnc47 := NB1021_1022.out
           have hnb48 := NB1022_1034.out
           have hnc48 := NB1034_1022.out
           obtain ⟨hcz49_0, hcz49_1, hfz49_0, hfz49_1⟩ := zc2 BK1022
           obtain ⟨Ao50, co50, eo50⟩ := Kd.S_slice HO1029.out
           subst eo50
           go_wp2_with (first | ((with_reducible refine gate_callee (f := 40) rfl ?_); refine gl (some 52) Try.func40 #[.slice Ao50 t1027.length co50, .agg #[.string t1017, .slice Ao16 t1018.length co16]] ?_; (with_reducible refine (impl_ProbeFree.calls kj7 _ _ t1027 t1017 _ _ t1018 true _ ?side1 ?side2 ?side3 ?side4 A43.out).mono ?_); (case side1 => repeat (first | exact (Kd.S_reads' HO1029.out).2.2 | (with_reducible refine Kd.C_alloc ?_ _) | (with_reducible refine Kd.C_drewN ?_ _) | (with_reducible refine Kd.C_drew ?_))); (case side2 => exact (Kd.S_reads' HO1029.out).2.1); (case side3 => exact sr HO_1023001); (case side4 => exact (Kd.R_reads' HO_1023001.out).2.1); rintro e w51 ⟨rfl, hb⟩; refine ⟨_, rfl, ?_⟩; have _ := ra (Kd.R_below (rq HO_1022001) hb); have _ := ra (Kd.R_below (rq HO_1023001) hb); have _ := ra (Kd.S_below (by (with_reducible repeat (first | apply Kd.S_alloc | apply Kd.S_drewN | apply Kd.S_drew)); exact HO1029.out) hb); have _ := ra (Kd.R_below (rq HO1033) hb); have _ := bb (bk BK1021) hb; have _ := bb (bk BK1022) hb; have _ := bb (bk BK1034) hb; have _ := bs hb; clear HO_1022001 HO_1023001 HO1029 HO1033 BK1021 BK1022 BK1034 HB; rename_i HO_1022001 HO_1023001 HO1029 HO1033 BK1021 BK1022 BK1034 HB; (try clear hb); (try clear hb2); (try clear hk); (try clear hi); have hnb52 := NB1021_1034.out; have hnc52 := NB1034_1021.out; obtain ⟨hcz53_0, hcz53_1, hfz53_0, hfz53_1⟩ := zc2 BK1021; obtain ⟨hcz54_0, hcz54_1, hfz54_0, hfz54_1⟩ := zc2 BK1022) | (go_at_call 40; (with_reducible refine (impl_ProbeFree.calls kj7 _ _ t1027 t1013 _ _ t1014 t1037 _ ?side1 ?side2 ?side3 ?side4 A46.out).mono ?_); (case side1 => repeat (first | exact (Kd.S_reads' HO1029.out).2.2 | (with_reducible refine Kd.C_alloc ?_ _) | (with_reducible refine Kd.C_drewN ?_ _) | (with_reducible refine Kd.C_drew ?_))); (case side2 => exact (Kd.S_reads' HO1029.out).2.1); (case side3 => exact sr HO_1022001); (case side4 => exact (Kd.R_reads' HO_1022001.out).2.1); rintro e w55 ⟨rfl, hb⟩; have _ := ra (Kd.R_below (rq HO_1022001) hb); have _ := ra (Kd.R_below (rq HO_1023001) hb); have _ := ra (Kd.S_below (by (with_reducible repeat (first | apply Kd.S_alloc | apply Kd.S_drewN | apply Kd.S_drew)); exact HO1029.out) hb); have _ := ra (Kd.R_below (rq HO1033) hb); have _ := bb (bk BK1021) hb; have _ := bb (bk BK1022) hb; have _ := bb (bk BK1034) hb; have _ := bs hb; clear HO_1022001 HO_1023001 HO1029 HO1033 BK1021 BK1022 BK1034 HB; rename_i HO_1022001 HO_1023001 HO1029 HO1033 BK1021 BK1022 BK1034 HB; (try clear hb); (try clear hb2); (try clear hk); (try clear hi)))
           go_meet
           case rel => exact ⟨_, (!t1037), rs, H', ⟨by have := HJ2.out; have := HJ7.out; first | omega | exact Nat.le_refl _⟩, ⟨rq HO_1022001⟩, ⟨rq HO_1023001⟩, ⟨by (with_reducible repeat (first | apply Kd.R_alloc | apply Kd.R_drewN | apply Kd.R_drew)); exact Kd.R_mono HO1033.out (fun _ hk => ⟨hk.1.2, hk.2⟩)⟩, ⟨bk BK1021⟩, ⟨bk BK1022⟩, ⟨bk BK1034⟩, ⟨bq⟩⟩
          ·rw [if_neg c45] at H
           have c45b0 : (t1013.toList == t1017.toList) = false := beq_eq_false_iff_ne.mpr c45
           have c45b1 : (t1013.toList != t1017.toList) = true := bne_iff_ne.mpr c45
           (first | rw [c45b0] | (simp only [i64_w, i32_w]; rw [c45b0]) | skip)
           have H' := Aside0.mk H
           clear H
           have hnb56 := NB1022_1021.out
           have hnc56 := NB1021_1022.out
           have hnb57 := NB1022_1034.out
           have hnc57 := NB1034_1022.out
           obtain ⟨hcz58_0, hcz58_1, hfz58_0, hfz58_1⟩ := zc2 BK1022
           obtain ⟨Ao59, co59, eo59⟩ := Kd.S_slice HO1029.out
           subst eo59
           go_wp2_with (first | ((with_reducible refine gate_callee (f := 40) rfl ?_); refine gl (some 52) Try.func40 #[.slice Ao59 t1027.length co59, .agg #[.string t1017, .slice Ao16 t1018.length co16]] ?_; (with_reducible refine (impl_ProbeFree.calls kj7 _ _ t1027 t1017 _ _ t1018 true _ ?side1 ?side2 ?side3 ?side4 A43.out).mono ?_); (case side1 => repeat (first | exact (Kd.S_reads' HO1029.out).2.2 | (with_reducible refine Kd.C_alloc ?_ _) | (with_reducible refine Kd.C_drewN ?_ _) | (with_reducible refine Kd.C_drew ?_))); (case side2 => exact (Kd.S_reads' HO1029.out).2.1); (case side3 => exact sr HO_1023001); (case side4 => exact (Kd.R_reads' HO_1023001.out).2.1); rintro e w60 ⟨rfl, hb⟩; refine ⟨_, rfl, ?_⟩; have _ := ra (Kd.R_below (rq HO_1022001) hb); have _ := ra (Kd.R_below (rq HO_1023001) hb); have _ := ra (Kd.S_below (by (with_reducible repeat (first | apply Kd.S_alloc | apply Kd.S_drewN | apply Kd.S_drew)); exact HO1029.out) hb); have _ := ra (Kd.R_below (rq HO1033) hb); have _ := bb (bk BK1021) hb; have _ := bb (bk BK1022) hb; have _ := bb (bk BK1034) hb; have _ := bs hb; clear HO_1022001 HO_1023001 HO1029 HO1033 BK1021 BK1022 BK1034 HB; rename_i HO_1022001 HO_1023001 HO1029 HO1033 BK1021 BK1022 BK1034 HB; (try clear hb); (try clear hb2); (try clear hk); (try clear hi); have hnb61 := NB1021_1034.out; have hnc61 := NB1034_1021.out; obtain ⟨hcz62_0, hcz62_1, hfz62_0, hfz62_1⟩ := zc2 BK1021; obtain ⟨hcz63_0, hcz63_1, hfz63_0, hfz63_1⟩ := zc2 BK1022))
           go_meet
           case rel => exact ⟨_, (false), rs, H', ⟨by have := HJ2.out; have := HJ7.out; first | omega | exact Nat.le_refl _⟩, ⟨rq HO_1022001⟩, ⟨rq HO_1023001⟩, ⟨by (with_reducible repeat (first | apply Kd.R_alloc | apply Kd.R_drewN | apply Kd.R_drew)); exact Kd.R_mono HO1033.out (fun _ hk => ⟨hk.1.2, hk.2⟩)⟩, ⟨bk BK1021⟩, ⟨bk BK1022⟩, ⟨bk BK1034⟩, ⟨bq⟩⟩
         ·replace c44 := Bool.eq_false_iff.mpr c44
          subst c44
          have H1 : (laws_FnSmaller.j2 kj7 l1 false t1013 t1014 t1017 t1018) = some true := by rw [if_neg (show ¬ (false = true) by decide)] at H; exact H
          clear H
          have H := H1
          clear H1
          have H' := Aside0.mk H
          clear H
          have hnb64 := NB1022_1021.out
          have hnc64 := NB1021_1022.out
          have hnb65 := NB1022_1034.out
          have hnc65 := NB1034_1022.out
          obtain ⟨hcz66_0, hcz66_1, hfz66_0, hfz66_1⟩ := zc2 BK1022
          obtain ⟨Ao67, co67, eo67⟩ := Kd.S_slice HO1029.out
          subst eo67
          go_wp2_with (first | ((with_reducible refine gate_callee (f := 40) rfl ?_); refine gl (some 52) Try.func40 #[.slice Ao67 t1027.length co67, .agg #[.string t1017, .slice Ao16 t1018.length co16]] ?_; (with_reducible refine (impl_ProbeFree.calls kj7 _ _ t1027 t1017 _ _ t1018 false _ ?side1 ?side2 ?side3 ?side4 A43.out).mono ?_); (case side1 => repeat (first | exact (Kd.S_reads' HO1029.out).2.2 | (with_reducible refine Kd.C_alloc ?_ _) | (with_reducible refine Kd.C_drewN ?_ _) | (with_reducible refine Kd.C_drew ?_))); (case side2 => exact (Kd.S_reads' HO1029.out).2.1); (case side3 => exact sr HO_1023001); (case side4 => exact (Kd.R_reads' HO_1023001.out).2.1); rintro e w68 ⟨rfl, hb⟩; refine ⟨_, rfl, ?_⟩; have _ := ra (Kd.R_below (rq HO_1022001) hb); have _ := ra (Kd.R_below (rq HO_1023001) hb); have _ := ra (Kd.S_below (by (with_reducible repeat (first | apply Kd.S_alloc | apply Kd.S_drewN | apply Kd.S_drew)); exact HO1029.out) hb); have _ := ra (Kd.R_below (rq HO1033) hb); have _ := bb (bk BK1021) hb; have _ := bb (bk BK1022) hb; have _ := bb (bk BK1034) hb; have _ := bs hb; clear HO_1022001 HO_1023001 HO1029 HO1033 BK1021 BK1022 BK1034 HB; rename_i HO_1022001 HO_1023001 HO1029 HO1033 BK1021 BK1022 BK1034 HB; (try clear hb); (try clear hb2); (try clear hk); (try clear hi)))
          go_meet
          case rel => exact ⟨_, (false), rs, H', ⟨by have := HJ2.out; have := HJ7.out; first | omega | exact Nat.le_refl _⟩, ⟨rq HO_1022001⟩, ⟨rq HO_1023001⟩, ⟨by (with_reducible repeat (first | apply Kd.R_alloc | apply Kd.R_drewN | apply Kd.R_drew)); exact Kd.R_mono HO1033.out (fun _ hk => ⟨hk.1.2, hk.2⟩)⟩, ⟨bk BK1021⟩, ⟨bk BK1022⟩, ⟨bk BK1034⟩, ⟨bq⟩⟩
        case rest =>
         clear HC32
         try clear c1
         try clear c4
         try clear c4b0
         try clear c4b1
         try clear c5
         try clear c19
         try clear c19b0
         try clear c19b1
         try clear c19b2
         try clear c28
         try clear c31
         try clear c44
         try clear c45
         try clear c45b0
         try clear c45b1
         try clear hcz13_0
         try clear hcz13_1
         try clear hcz15_0
         try clear hcz15_1
         try clear hcz37_0
         try clear hcz37_1
         try clear hcz40_0
         try clear hcz40_1
         try clear hcz41_0
         try clear hcz41_1
         try clear hcz49_0
         try clear hcz49_1
         try clear hcz53_0
         try clear hcz53_1
         try clear hcz54_0
         try clear hcz54_1
         try clear hcz58_0
         try clear hcz58_1
         try clear hcz62_0
         try clear hcz62_1
         try clear hcz63_0
         try clear hcz63_1
         try clear hcz66_0
         try clear hcz66_1
         try clear hfz13_0
         try clear hfz13_1
         try clear hfz15_0
         try clear hfz15_1
         try clear hfz37_0
         try clear hfz37_1
         try clear hfz40_0
         try clear hfz40_1
         try clear hfz41_0
         try clear hfz41_1
         try clear hfz49_0
         try clear hfz49_1
         try clear hfz53_0
         try clear hfz53_1
         try clear hfz54_0
         try clear hfz54_1
         try clear hfz58_0
         try clear hfz58_1
         try clear hfz62_0
         try clear hfz62_1
         try clear hfz63_0
         try clear hfz63_1
         try clear hfz66_0
         try clear hfz66_1
         obtain ⟨kq, x65_31, rfl, HA, HJ31, HO_1022001, HO_1023001, HO_1035001, BK1021, BK1022, BK1034, HB⟩ := hcut
         cases kq with
         | zero => exact absurd HA.out (by simp [laws_FnSmaller.j2])
         | succ kj31 =>
          have H := HA.out
          clear HA
          simp only [laws_FnSmaller.j2] at H
          by_cases c69 : x65_31 = true
          ·subst c69
           have H1 : (some false) = some true := by rw [if_pos rfl] at H; exact H
           clear H
           have H := H1
           exact absurd (Option.some.inj H) (by decide)
          ·replace c69 := Bool.eq_false_iff.mpr c69
           subst c69
           have H1 : ((spec_DrawProbeSmaller.f kj31 l1).bind fun bt1038 => ((impl_ProbeSmaller.f kj31 t1017 t1018 bt1038.1 bt1038.2.1).bind fun t1048 => (if t1048 = true then ((impl_ProbeSmaller.f kj31 bt1038.1 bt1038.2.1 bt1038.2.2.1 bt1038.2.2.2).bind fun t1049 => (if t1049 = true then ((impl_ProbeSmaller.f kj31 t1013 t1014 bt1038.2.2.1 bt1038.2.2.2).bind fun t1050 => (some t1050)) else (some true))) else (some true)))) = some true := by rw [if_neg (show ¬ (false = true) by decide)] at H; exact H
           clear H
           have H := H1
           clear H1
           obtain ⟨⟨t1038, t1039, t1042, t1043⟩, A70, H⟩ := bo H
           try dsimp only at H
           obtain ⟨t1048, A71, H⟩ := bo H
           by_cases c72 : t1048 = true
           ·subst c72
            replace H := it H rfl
            obtain ⟨t1049, A73, H⟩ := bo H
            by_cases c74 : t1049 = true
            ·subst c74
             replace H := it H rfl
             obtain ⟨t1050, A75, H⟩ := bo H
             obtain rfl : t1050 = true := Option.some.inj H
             go_wp2_with (first | ((with_reducible refine gate_callee (f := 47) rfl ?_); refine gl (some 68) Try.func47 #[.slice A1 l1.length c1] ?_; (with_reducible refine (spec_DrawProbeSmaller.calls kj31 _ _ l1 t1038 t1039 t1042 t1043 _ ?side1 ?side2 A70.out).mono ?_); (case side1 => exact sc HR1); (case side2 => exact HC1.out); rintro e w76 ⟨v1040, v1044, rfl, ho0, ho1, hb⟩; refine ⟨_, rfl, ?_⟩; have _ := ra (Kd.R_mono (Kd.R_told (Kd.R_told (Kd.R_old (rq HO_1022001) hb) (Kd.R_base ho0)) (Kd.R_base ho1)) (fun _ h_ => h_.1)); have _ := ra (Kd.R_mono (Kd.R_told (Kd.R_told (Kd.R_old (rq HO_1023001) hb) (Kd.R_base ho0)) (Kd.R_base ho1)) (fun _ h_ => h_.1)); have _ := ra (Kd.R_mono (Kd.R_told (Kd.R_told (Kd.R_old (rq HO_1035001) hb) (Kd.R_base ho0)) (Kd.R_base ho1)) (fun _ h_ => h_.1)); have _ := ra (Kd.R_lower (Kd.R_new' (Kd.R_new' (Kd.R_new' ho0 (Kd.R_lt (rq HO_1022001))) (Kd.R_lt (rq HO_1023001))) (Kd.R_lt (rq HO_1035001))) (below_size bq)); have _ := ra (Kd.R_lower (Kd.R_new' (Kd.R_new' (Kd.R_new' ho1 (Kd.R_lt (rq HO_1022001))) (Kd.R_lt (rq HO_1023001))) (Kd.R_lt (rq HO_1035001))) (below_size bq)); have _ := bb (bk BK1021) hb; have _ := bb (bk BK1022) hb; have _ := bb (bk BK1034) hb; have _ := bs hb; clear HO_1022001 HO_1023001 HO_1035001 BK1021 BK1022 BK1034 HB; rename_i HO_1022001 HO_1023001 HO_1035001 HO1041 HO1045 BK1021 BK1022 BK1034 HB; (try clear hb); (try clear hb2); (try clear hk); (try clear hi); (try clear ho0); (try clear ho1)) | ((with_reducible refine gate_dst (N := 10) rfl ?_); (try (refine gate_guard (by rfl) ?_; dsimp only)); refine be 10 #[.string (⟨#[]⟩ : ByteArray), .slice none 0 0] 39 ?_; intro gb1046 hg w77 hbox hb; have _ := ra (Kd.R_below (rq HO_1022001) hb); have _ := ra (Kd.R_below (rq HO_1023001) hb); have _ := ra (Kd.R_below (rq HO_1035001) hb); have _ := ra (Kd.R_below (rq HO1041) hb); have _ := ra (Kd.R_below (rq HO1045) hb); have _ := bb (bk BK1021) hb; have _ := bb (bk BK1022) hb; have _ := bb (bk BK1034) hb; have _ := bs hb; have _ := ra (hbox); have _ := bz (w0 := w) hg; have _ := bz (w0 := w) hg; have _ := bn hg (bk BK1021); have _ := bm hg (bk BK1021); have _ := bn hg (bk BK1022); have _ := bm hg (bk BK1022); have _ := bn hg (bk BK1034); have _ := bm hg (bk BK1034); clear HO_1022001 HO_1023001 HO_1035001 HO1041 HO1045 BK1021 BK1022 BK1034 HB; rename_i HO_1022001 HO_1023001 HO_1035001 HO1041 HO1045 BK1021 BK1022 BK1034 HB BK1046 GW1046 GE1046 NB1021_1046 NB1046_1021 NB1022_1046 NB1046_1022 NB1034_1046 NB1046_1034; clear hb hbox hg) | ((with_reducible refine gate_dst (N := 11) rfl ?_); (try (refine gate_guard (by rfl) ?_; dsimp only)); refine be 11 #[.string (⟨#[]⟩ : ByteArray), .slice none 0 0] 39 ?_; intro gb1047 hg w78 hbox hb; have _ := ra (Kd.R_below (rq HO_1022001) hb); have _ := ra (Kd.R_below (rq HO_1023001) hb); have _ := ra (Kd.R_below (rq HO_1035001) hb); have _ := ra (Kd.R_below (rq HO1041) hb); have _ := ra (Kd.R_below (rq HO1045) hb); have _ := bb (bk BK1021) hb; have _ := bb (bk BK1022) hb; have _ := bb (bk BK1034) hb; have _ := bb (bk BK1046) hb; have _ := bs hb; have _ := ra (hbox); have _ := bz (w0 := w) hg; have _ := bz (w0 := w) hg; have _ := bn hg (bk BK1021); have _ := bm hg (bk BK1021); have _ := bn hg (bk BK1022); have _ := bm hg (bk BK1022); have _ := bn hg (bk BK1034); have _ := bm hg (bk BK1034); have _ := bn hg (bk BK1046); have _ := bm hg (bk BK1046); clear HO_1022001 HO_1023001 HO_1035001 HO1041 HO1045 BK1021 BK1022 BK1034 BK1046 HB; rename_i HO_1022001 HO_1023001 HO_1035001 HO1041 HO1045 BK1021 BK1022 BK1034 BK1046 HB BK1047 GW1047 GE1047 NB1021_1047 NB1047_1021 NB1022_1047 NB1047_1022 NB1034_1047 NB1047_1034 NB1046_1047 NB1047_1046; clear hb hbox hg; have hnb79 := NB1046_1021.out; have hnc79 := NB1021_1046.out; have hnb80 := NB1046_1022.out; have hnc80 := NB1022_1046.out; have hnb81 := NB1046_1034.out; have hnc81 := NB1034_1046.out; have hnb82 := NB1046_1047.out; have hnc82 := NB1047_1046.out; obtain ⟨hcz83_0, hcz83_1, hfz83_0, hfz83_1⟩ := zc2 BK1046; obtain ⟨Ao84, co84, eo84⟩ := Kd.R_slice HO1041.out; subst eo84; have hnb85 := NB1047_1021.out; have hnc85 := NB1021_1047.out; have hnb86 := NB1047_1022.out; have hnc86 := NB1022_1047.out; have hnb87 := NB1047_1034.out; have hnc87 := NB1034_1047.out; obtain ⟨hcz88_0, hcz88_1, hfz88_0, hfz88_1⟩ := zc2 BK1047; obtain ⟨Ao89, co89, eo89⟩ := Kd.R_slice HO1045.out; subst eo89; have hnb90 := NB1022_1021.out; have hnc90 := NB1021_1022.out; have hnb91 := NB1022_1034.out; have hnc91 := NB1034_1022.out; obtain ⟨hcz92_0, hcz92_1, hfz92_0, hfz92_1⟩ := zc2 BK1022) | ((with_reducible refine gate_callee (f := 26) rfl ?_); refine gl (some 73) Try.func26 #[.agg #[.string t1017, .slice Ao16 t1018.length co16], .agg #[.string t1038, .slice Ao84 t1039.length co84]] ?_; (with_reducible refine (impl_ProbeSmaller.calls kj31 t1017 _ _ t1018 t1038 _ _ t1039 true _ ?side1 ?side2 ?side3 ?side4 A71.out).mono ?_); (case side1 => refine (Kd.R_reads' (e := 26) (base := w.heap.size) (ok := fun k_ => (((some k_ ≠ (.slice Ao14 t1014.length co14 : Value).ownBlock ∧ some k_ ≠ (.slice Ao38 t1031.length co38 : Value).ownBlock) ∧ some k_ ≠ (.slice Ao84 t1039.length co84 : Value).ownBlock) ∧ some k_ ≠ (.slice Ao89 t1043.length co89 : Value).ownBlock)) (n := t1018.length) (c := co16) ?_).2.2; exact (Kd.R_mono (Kd.R_mono (rf (Kd.R_types (Kd.R_types HO_1023001.out BK1046.out (by decide)) BK1047.out (by decide))) (fun _ h_ => h_.1)) (fun _ h_ => h_.1))); (case side2 => exact (Kd.R_reads' HO_1023001.out).2.1); (case side3 => refine (Kd.R_reads' (e := 26) (base := w.heap.size) (ok := fun k_ => (((some k_ ≠ (.slice Ao89 t1043.length co89 : Value).ownBlock ∧ some k_ ≠ (.slice Ao14 t1014.length co14 : Value).ownBlock) ∧ some k_ ≠ (.slice Ao16 t1018.length co16 : Value).ownBlock) ∧ some k_ ≠ (.slice Ao38 t1031.length co38 : Value).ownBlock)) (n := t1039.length) (c := co84) ?_).2.2; exact (Kd.R_mono (Kd.R_mono (rf (Kd.R_types (Kd.R_types HO1041.out BK1046.out (by decide)) BK1047.out (by decide))) (fun _ h_ => h_.1)) (fun _ h_ => h_.1))); (case side4 => exact (Kd.R_reads' HO1041.out).2.1); rintro e w93 ⟨rfl, hb⟩; refine ⟨_, rfl, ?_⟩; have _ := ra (Kd.R_below (Kd.R_mono (Kd.R_mono (rf (Kd.R_types (Kd.R_types HO_1022001.out BK1046.out (by decide)) BK1047.out (by decide))) (fun _ h_ => h_.1)) (fun _ h_ => h_.1)) hb); have _ := ra (Kd.R_below (Kd.R_mono (Kd.R_mono (rf (Kd.R_types (Kd.R_types HO_1023001.out BK1046.out (by decide)) BK1047.out (by decide))) (fun _ h_ => h_.1)) (fun _ h_ => h_.1)) hb); have _ := ra (Kd.R_below (Kd.R_mono (Kd.R_mono (rf (Kd.R_types (Kd.R_types HO_1035001.out BK1046.out (by decide)) BK1047.out (by decide))) (fun _ h_ => h_.1)) (fun _ h_ => h_.1)) hb); have _ := ra (Kd.R_below (Kd.R_mono (Kd.R_mono (rf (Kd.R_types (Kd.R_types HO1041.out BK1046.out (by decide)) BK1047.out (by decide))) (fun _ h_ => h_.1)) (fun _ h_ => h_.1)) hb); have _ := ra (Kd.R_below (Kd.R_mono (Kd.R_mono (rf (Kd.R_types (Kd.R_types HO1045.out BK1046.out (by decide)) BK1047.out (by decide))) (fun _ h_ => h_.1)) (fun _ h_ => h_.1)) hb); have _ := bb (bk BK1021) hb; have _ := bb (bk BK1022) hb; have _ := bb (bk BK1034) hb; have _ := bb (o := .cells #[.string t1038, .slice Ao84 t1039.length co84] 39 (0, 0)) (bp BK1046) hb; have _ := bb (o := .cells #[.string t1042, .slice Ao89 t1043.length co89] 39 (0, 0)) (bp BK1047) hb; have _ := bs hb; clear HO_1022001 HO_1023001 HO_1035001 HO1041 HO1045 BK1021 BK1022 BK1034 BK1046 BK1047 HB; rename_i HO_1022001 HO_1023001 HO_1035001 HO1041 HO1045 BK1021 BK1022 BK1034 BK1046 BK1047 HB; (try clear hb); (try clear hb2); (try clear hk); (try clear hi); obtain ⟨hcz94_0, hcz94_1, hfz94_0, hfz94_1⟩ := zc2 BK1046; obtain ⟨hcz95_0, hcz95_1, hfz95_0, hfz95_1⟩ := zc2 BK1047) | (go_at_call 26; (with_reducible refine (impl_ProbeSmaller.calls kj31 t1038 _ _ t1039 t1042 _ _ t1043 true _ ?side1 ?side2 ?side3 ?side4 A73.out).mono ?_); (case side1 => exact sr HO1041); (case side2 => exact (Kd.R_reads' HO1041.out).2.1); (case side3 => exact sr HO1045); (case side4 => exact (Kd.R_reads' HO1045.out).2.1); rintro e w96 ⟨rfl, hb⟩; have _ := ra (Kd.R_below (rq HO_1022001) hb); have _ := ra (Kd.R_below (rq HO_1023001) hb); have _ := ra (Kd.R_below (rq HO_1035001) hb); have _ := ra (Kd.R_below (rq HO1041) hb); have _ := ra (Kd.R_below (rq HO1045) hb); have _ := bb (bk BK1021) hb; have _ := bb (bk BK1022) hb; have _ := bb (bk BK1034) hb; have _ := bb (bk BK1046) hb; have _ := bb (bk BK1047) hb; have _ := bs hb; clear HO_1022001 HO_1023001 HO_1035001 HO1041 HO1045 BK1021 BK1022 BK1034 BK1046 BK1047 HB; rename_i HO_1022001 HO_1023001 HO_1035001 HO1041 HO1045 BK1021 BK1022 BK1034 BK1046 BK1047 HB; (try clear hb); (try clear hb2); (try clear hk); (try clear hi); have hnb97 := NB1021_1034.out; have hnc97 := NB1034_1021.out; obtain ⟨hcz98_0, hcz98_1, hfz98_0, hfz98_1⟩ := zc2 BK1021; obtain ⟨hcz99_0, hcz99_1, hfz99_0, hfz99_1⟩ := zc2 BK1047) | (go_at_call 26; (with_reducible refine (impl_ProbeSmaller.calls kj31 t1013 _ _ t1014 t1042 _ _ t1043 true _ ?side1 ?side2 ?side3 ?side4 A75.out).mono ?_); (case side1 => exact sr HO_1022001); (case side2 => exact (Kd.R_reads' HO_1022001.out).2.1); (case side3 => exact sr HO1045); (case side4 => exact (Kd.R_reads' HO1045.out).2.1); rintro e w100 ⟨rfl, hb⟩; have _ := ra (Kd.R_below (rq HO_1022001) hb); have _ := ra (Kd.R_below (rq HO_1023001) hb); have _ := ra (Kd.R_below (rq HO_1035001) hb); have _ := ra (Kd.R_below (rq HO1041) hb); have _ := ra (Kd.R_below (rq HO1045) hb); have _ := bb (bk BK1021) hb; have _ := bb (bk BK1022) hb; have _ := bb (bk BK1034) hb; have _ := bb (bk BK1046) hb; have _ := bb (bk BK1047) hb; have _ := bs hb; clear HO_1022001 HO_1023001 HO_1035001 HO1041 HO1045 BK1021 BK1022 BK1034 BK1046 BK1047 HB; rename_i HO_1022001 HO_1023001 HO_1035001 HO1041 HO1045 BK1021 BK1022 BK1034 BK1046 BK1047 HB; (try clear hb); (try clear hb2); (try clear hk); (try clear hi)))
             go_ret
             exact ⟨re, bq⟩
            ·replace c74 := Bool.eq_false_iff.mpr c74
             subst c74
             have H1 : (some true) = some true := rfl
             clear H
             have H := H1
             clear H1 H
             go_wp2_with (first | ((with_reducible refine gate_callee (f := 47) rfl ?_); refine gl (some 68) Try.func47 #[.slice A1 l1.length c1] ?_; (with_reducible refine (spec_DrawProbeSmaller.calls kj31 _ _ l1 t1038 t1039 t1042 t1043 _ ?side1 ?side2 A70.out).mono ?_); (case side1 => exact sc HR1); (case side2 => exact HC1.out); rintro e w101 ⟨v1040, v1044, rfl, ho0, ho1, hb⟩; refine ⟨_, rfl, ?_⟩; have _ := ra (Kd.R_mono (Kd.R_told (Kd.R_told (Kd.R_old (rq HO_1022001) hb) (Kd.R_base ho0)) (Kd.R_base ho1)) (fun _ h_ => h_.1)); have _ := ra (Kd.R_mono (Kd.R_told (Kd.R_told (Kd.R_old (rq HO_1023001) hb) (Kd.R_base ho0)) (Kd.R_base ho1)) (fun _ h_ => h_.1)); have _ := ra (Kd.R_mono (Kd.R_told (Kd.R_told (Kd.R_old (rq HO_1035001) hb) (Kd.R_base ho0)) (Kd.R_base ho1)) (fun _ h_ => h_.1)); have _ := ra (Kd.R_lower (Kd.R_new' (Kd.R_new' (Kd.R_new' ho0 (Kd.R_lt (rq HO_1022001))) (Kd.R_lt (rq HO_1023001))) (Kd.R_lt (rq HO_1035001))) (below_size bq)); have _ := ra (Kd.R_lower (Kd.R_new' (Kd.R_new' (Kd.R_new' ho1 (Kd.R_lt (rq HO_1022001))) (Kd.R_lt (rq HO_1023001))) (Kd.R_lt (rq HO_1035001))) (below_size bq)); have _ := bb (bk BK1021) hb; have _ := bb (bk BK1022) hb; have _ := bb (bk BK1034) hb; have _ := bs hb; clear HO_1022001 HO_1023001 HO_1035001 BK1021 BK1022 BK1034 HB; rename_i HO_1022001 HO_1023001 HO_1035001 HO1041 HO1045 BK1021 BK1022 BK1034 HB; (try clear hb); (try clear hb2); (try clear hk); (try clear hi); (try clear ho0); (try clear ho1)) | ((with_reducible refine gate_dst (N := 10) rfl ?_); (try (refine gate_guard (by rfl) ?_; dsimp only)); refine be 10 #[.string (⟨#[]⟩ : ByteArray), .slice none 0 0] 39 ?_; intro gb1046 hg w102 hbox hb; have _ := ra (Kd.R_below (rq HO_1022001) hb); have _ := ra (Kd.R_below (rq HO_1023001) hb); have _ := ra (Kd.R_below (rq HO_1035001) hb); have _ := ra (Kd.R_below (rq HO1041) hb); have _ := ra (Kd.R_below (rq HO1045) hb); have _ := bb (bk BK1021) hb; have _ := bb (bk BK1022) hb; have _ := bb (bk BK1034) hb; have _ := bs hb; have _ := ra (hbox); have _ := bz (w0 := w) hg; have _ := bz (w0 := w) hg; have _ := bn hg (bk BK1021); have _ := bm hg (bk BK1021); have _ := bn hg (bk BK1022); have _ := bm hg (bk BK1022); have _ := bn hg (bk BK1034); have _ := bm hg (bk BK1034); clear HO_1022001 HO_1023001 HO_1035001 HO1041 HO1045 BK1021 BK1022 BK1034 HB; rename_i HO_1022001 HO_1023001 HO_1035001 HO1041 HO1045 BK1021 BK1022 BK1034 HB BK1046 GW1046 GE1046 NB1021_1046 NB1046_1021 NB1022_1046 NB1046_1022 NB1034_1046 NB1046_1034; clear hb hbox hg) | ((with_reducible refine gate_dst (N := 11) rfl ?_); (try (refine gate_guard (by rfl) ?_; dsimp only)); refine be 11 #[.string (⟨#[]⟩ : ByteArray), .slice none 0 0] 39 ?_; intro gb1047 hg w103 hbox hb; have _ := ra (Kd.R_below (rq HO_1022001) hb); have _ := ra (Kd.R_below (rq HO_1023001) hb); have _ := ra (Kd.R_below (rq HO_1035001) hb); have _ := ra (Kd.R_below (rq HO1041) hb); have _ := ra (Kd.R_below (rq HO1045) hb); have _ := bb (bk BK1021) hb; have _ := bb (bk BK1022) hb; have _ := bb (bk BK1034) hb; have _ := bb (bk BK1046) hb; have _ := bs hb; have _ := ra (hbox); have _ := bz (w0 := w) hg; have _ := bz (w0 := w) hg; have _ := bn hg (bk BK1021); have _ := bm hg (bk BK1021); have _ := bn hg (bk BK1022); have _ := bm hg (bk BK1022); have _ := bn hg (bk BK1034); have _ := bm hg (bk BK1034); have _ := bn hg (bk BK1046); have _ := bm hg (bk BK1046); clear HO_1022001 HO_1023001 HO_1035001 HO1041 HO1045 BK1021 BK1022 BK1034 BK1046 HB; rename_i HO_1022001 HO_1023001 HO_1035001 HO1041 HO1045 BK1021 BK1022 BK1034 BK1046 HB BK1047 GW1047 GE1047 NB1021_1047 NB1047_1021 NB1022_1047 NB1047_1022 NB1034_1047 NB1047_1034 NB1046_1047 NB1047_1046; clear hb hbox hg; have hnb104 := NB1046_1021.out; have hnc104 := NB1021_1046.out; have hnb105 := NB1046_1022.out; have hnc105 := NB1022_1046.out; have hnb106 := NB1046_1034.out; have hnc106 := NB1034_1046.out; have hnb107 := NB1046_1047.out; have hnc107 := NB1047_1046.out; obtain ⟨hcz108_0, hcz108_1, hfz108_0, hfz108_1⟩ := zc2 BK1046; obtain ⟨Ao109, co109, eo109⟩ := Kd.R_slice HO1041.out; subst eo109; have hnb110 := NB1047_1021.out; have hnc110 := NB1021_1047.out; have hnb111 := NB1047_1022.out; have hnc111 := NB1022_1047.out; have hnb112 := NB1047_1034.out; have hnc112 := NB1034_1047.out; obtain ⟨hcz113_0, hcz113_1, hfz113_0, hfz113_1⟩ := zc2 BK1047; obtain ⟨Ao114, co114, eo114⟩ := Kd.R_slice HO1045.out; subst eo114; have hnb115 := NB1022_1021.out; have hnc115 := NB1021_1022.out; have hnb116 := NB1022_1034.out; have hnc116 := NB1034_1022.out; obtain ⟨hcz117_0, hcz117_1, hfz117_0, hfz117_1⟩ := zc2 BK1022) | ((with_reducible refine gate_callee (f := 26) rfl ?_); refine gl (some 73) Try.func26 #[.agg #[.string t1017, .slice Ao16 t1018.length co16], .agg #[.string t1038, .slice Ao109 t1039.length co109]] ?_; (with_reducible refine (impl_ProbeSmaller.calls kj31 t1017 _ _ t1018 t1038 _ _ t1039 true _ ?side1 ?side2 ?side3 ?side4 A71.out).mono ?_); (case side1 => refine (Kd.R_reads' (e := 26) (base := w.heap.size) (ok := fun k_ => (((some k_ ≠ (.slice Ao14 t1014.length co14 : Value).ownBlock ∧ some k_ ≠ (.slice Ao38 t1031.length co38 : Value).ownBlock) ∧ some k_ ≠ (.slice Ao109 t1039.length co109 : Value).ownBlock) ∧ some k_ ≠ (.slice Ao114 t1043.length co114 : Value).ownBlock)) (n := t1018.length) (c := co16) ?_).2.2; exact (Kd.R_mono (Kd.R_mono (rf (Kd.R_types (Kd.R_types HO_1023001.out BK1046.out (by decide)) BK1047.out (by decide))) (fun _ h_ => h_.1)) (fun _ h_ => h_.1))); (case side2 => exact (Kd.R_reads' HO_1023001.out).2.1); (case side3 => refine (Kd.R_reads' (e := 26) (base := w.heap.size) (ok := fun k_ => (((some k_ ≠ (.slice Ao114 t1043.length co114 : Value).ownBlock ∧ some k_ ≠ (.slice Ao14 t1014.length co14 : Value).ownBlock) ∧ some k_ ≠ (.slice Ao16 t1018.length co16 : Value).ownBlock) ∧ some k_ ≠ (.slice Ao38 t1031.length co38 : Value).ownBlock)) (n := t1039.length) (c := co109) ?_).2.2; exact (Kd.R_mono (Kd.R_mono (rf (Kd.R_types (Kd.R_types HO1041.out BK1046.out (by decide)) BK1047.out (by decide))) (fun _ h_ => h_.1)) (fun _ h_ => h_.1))); (case side4 => exact (Kd.R_reads' HO1041.out).2.1); rintro e w118 ⟨rfl, hb⟩; refine ⟨_, rfl, ?_⟩; have _ := ra (Kd.R_below (Kd.R_mono (Kd.R_mono (rf (Kd.R_types (Kd.R_types HO_1022001.out BK1046.out (by decide)) BK1047.out (by decide))) (fun _ h_ => h_.1)) (fun _ h_ => h_.1)) hb); have _ := ra (Kd.R_below (Kd.R_mono (Kd.R_mono (rf (Kd.R_types (Kd.R_types HO_1023001.out BK1046.out (by decide)) BK1047.out (by decide))) (fun _ h_ => h_.1)) (fun _ h_ => h_.1)) hb); have _ := ra (Kd.R_below (Kd.R_mono (Kd.R_mono (rf (Kd.R_types (Kd.R_types HO_1035001.out BK1046.out (by decide)) BK1047.out (by decide))) (fun _ h_ => h_.1)) (fun _ h_ => h_.1)) hb); have _ := ra (Kd.R_below (Kd.R_mono (Kd.R_mono (rf (Kd.R_types (Kd.R_types HO1041.out BK1046.out (by decide)) BK1047.out (by decide))) (fun _ h_ => h_.1)) (fun _ h_ => h_.1)) hb); have _ := ra (Kd.R_below (Kd.R_mono (Kd.R_mono (rf (Kd.R_types (Kd.R_types HO1045.out BK1046.out (by decide)) BK1047.out (by decide))) (fun _ h_ => h_.1)) (fun _ h_ => h_.1)) hb); have _ := bb (bk BK1021) hb; have _ := bb (bk BK1022) hb; have _ := bb (bk BK1034) hb; have _ := bb (o := .cells #[.string t1038, .slice Ao109 t1039.length co109] 39 (0, 0)) (bp BK1046) hb; have _ := bb (o := .cells #[.string t1042, .slice Ao114 t1043.length co114] 39 (0, 0)) (bp BK1047) hb; have _ := bs hb; clear HO_1022001 HO_1023001 HO_1035001 HO1041 HO1045 BK1021 BK1022 BK1034 BK1046 BK1047 HB; rename_i HO_1022001 HO_1023001 HO_1035001 HO1041 HO1045 BK1021 BK1022 BK1034 BK1046 BK1047 HB; (try clear hb); (try clear hb2); (try clear hk); (try clear hi); obtain ⟨hcz119_0, hcz119_1, hfz119_0, hfz119_1⟩ := zc2 BK1046; obtain ⟨hcz120_0, hcz120_1, hfz120_0, hfz120_1⟩ := zc2 BK1047) | (go_at_call 26; (with_reducible refine (impl_ProbeSmaller.calls kj31 t1038 _ _ t1039 t1042 _ _ t1043 false _ ?side1 ?side2 ?side3 ?side4 A73.out).mono ?_); (case side1 => exact sr HO1041); (case side2 => exact (Kd.R_reads' HO1041.out).2.1); (case side3 => exact sr HO1045); (case side4 => exact (Kd.R_reads' HO1045.out).2.1); rintro e w121 ⟨rfl, hb⟩; have _ := ra (Kd.R_below (rq HO_1022001) hb); have _ := ra (Kd.R_below (rq HO_1023001) hb); have _ := ra (Kd.R_below (rq HO_1035001) hb); have _ := ra (Kd.R_below (rq HO1041) hb); have _ := ra (Kd.R_below (rq HO1045) hb); have _ := bb (bk BK1021) hb; have _ := bb (bk BK1022) hb; have _ := bb (bk BK1034) hb; have _ := bb (bk BK1046) hb; have _ := bb (bk BK1047) hb; have _ := bs hb; clear HO_1022001 HO_1023001 HO_1035001 HO1041 HO1045 BK1021 BK1022 BK1034 BK1046 BK1047 HB; rename_i HO_1022001 HO_1023001 HO_1035001 HO1041 HO1045 BK1021 BK1022 BK1034 BK1046 BK1047 HB; (try clear hb); (try clear hb2); (try clear hk); (try clear hi)))
             go_ret
             exact ⟨re, bq⟩
           ·replace c72 := Bool.eq_false_iff.mpr c72
            subst c72
            have H1 : (some true) = some true := rfl
            clear H
            have H := H1
            clear H1 H
            go_wp2_with (first | ((with_reducible refine gate_callee (f := 47) rfl ?_); refine gl (some 68) Try.func47 #[.slice A1 l1.length c1] ?_; (with_reducible refine (spec_DrawProbeSmaller.calls kj31 _ _ l1 t1038 t1039 t1042 t1043 _ ?side1 ?side2 A70.out).mono ?_); (case side1 => exact sc HR1); (case side2 => exact HC1.out); rintro e w122 ⟨v1040, v1044, rfl, ho0, ho1, hb⟩; refine ⟨_, rfl, ?_⟩; have _ := ra (Kd.R_mono (Kd.R_told (Kd.R_told (Kd.R_old (rq HO_1022001) hb) (Kd.R_base ho0)) (Kd.R_base ho1)) (fun _ h_ => h_.1)); have _ := ra (Kd.R_mono (Kd.R_told (Kd.R_told (Kd.R_old (rq HO_1023001) hb) (Kd.R_base ho0)) (Kd.R_base ho1)) (fun _ h_ => h_.1)); have _ := ra (Kd.R_mono (Kd.R_told (Kd.R_told (Kd.R_old (rq HO_1035001) hb) (Kd.R_base ho0)) (Kd.R_base ho1)) (fun _ h_ => h_.1)); have _ := ra (Kd.R_lower (Kd.R_new' (Kd.R_new' (Kd.R_new' ho0 (Kd.R_lt (rq HO_1022001))) (Kd.R_lt (rq HO_1023001))) (Kd.R_lt (rq HO_1035001))) (below_size bq)); have _ := ra (Kd.R_lower (Kd.R_new' (Kd.R_new' (Kd.R_new' ho1 (Kd.R_lt (rq HO_1022001))) (Kd.R_lt (rq HO_1023001))) (Kd.R_lt (rq HO_1035001))) (below_size bq)); have _ := bb (bk BK1021) hb; have _ := bb (bk BK1022) hb; have _ := bb (bk BK1034) hb; have _ := bs hb; clear HO_1022001 HO_1023001 HO_1035001 BK1021 BK1022 BK1034 HB; rename_i HO_1022001 HO_1023001 HO_1035001 HO1041 HO1045 BK1021 BK1022 BK1034 HB; (try clear hb); (try clear hb2); (try clear hk); (try clear hi); (try clear ho0); (try clear ho1)) | ((with_reducible refine gate_dst (N := 10) rfl ?_); (try (refine gate_guard (by rfl) ?_; dsimp only)); refine be 10 #[.string (⟨#[]⟩ : ByteArray), .slice none 0 0] 39 ?_; intro gb1046 hg w123 hbox hb; have _ := ra (Kd.R_below (rq HO_1022001) hb); have _ := ra (Kd.R_below (rq HO_1023001) hb); have _ := ra (Kd.R_below (rq HO_1035001) hb); have _ := ra (Kd.R_below (rq HO1041) hb); have _ := ra (Kd.R_below (rq HO1045) hb); have _ := bb (bk BK1021) hb; have _ := bb (bk BK1022) hb; have _ := bb (bk BK1034) hb; have _ := bs hb; have _ := ra (hbox); have _ := bz (w0 := w) hg; have _ := bz (w0 := w) hg; have _ := bn hg (bk BK1021); have _ := bm hg (bk BK1021); have _ := bn hg (bk BK1022); have _ := bm hg (bk BK1022); have _ := bn hg (bk BK1034); have _ := bm hg (bk BK1034); clear HO_1022001 HO_1023001 HO_1035001 HO1041 HO1045 BK1021 BK1022 BK1034 HB; rename_i HO_1022001 HO_1023001 HO_1035001 HO1041 HO1045 BK1021 BK1022 BK1034 HB BK1046 GW1046 GE1046 NB1021_1046 NB1046_1021 NB1022_1046 NB1046_1022 NB1034_1046 NB1046_1034; clear hb hbox hg) | ((with_reducible refine gate_dst (N := 11) rfl ?_); (try (refine gate_guard (by rfl) ?_; dsimp only)); refine be 11 #[.string (⟨#[]⟩ : ByteArray), .slice none 0 0] 39 ?_; intro gb1047 hg w124 hbox hb; have _ := ra (Kd.R_below (rq HO_1022001) hb); have _ := ra (Kd.R_below (rq HO_1023001) hb); have _ := ra (Kd.R_below (rq HO_1035001) hb); have _ := ra (Kd.R_below (rq HO1041) hb); have _ := ra (Kd.R_below (rq HO1045) hb); have _ := bb (bk BK1021) hb; have _ := bb (bk BK1022) hb; have _ := bb (bk BK1034) hb; have _ := bb (bk BK1046) hb; have _ := bs hb; have _ := ra (hbox); have _ := bz (w0 := w) hg; have _ := bz (w0 := w) hg; have _ := bn hg (bk BK1021); have _ := bm hg (bk BK1021); have _ := bn hg (bk BK1022); have _ := bm hg (bk BK1022); have _ := bn hg (bk BK1034); have _ := bm hg (bk BK1034); have _ := bn hg (bk BK1046); have _ := bm hg (bk BK1046); clear HO_1022001 HO_1023001 HO_1035001 HO1041 HO1045 BK1021 BK1022 BK1034 BK1046 HB; rename_i HO_1022001 HO_1023001 HO_1035001 HO1041 HO1045 BK1021 BK1022 BK1034 BK1046 HB BK1047 GW1047 GE1047 NB1021_1047 NB1047_1021 NB1022_1047 NB1047_1022 NB1034_1047 NB1047_1034 NB1046_1047 NB1047_1046; clear hb hbox hg; have hnb125 := NB1046_1021.out; have hnc125 := NB1021_1046.out; have hnb126 := NB1046_1022.out; have hnc126 := NB1022_1046.out; have hnb127 := NB1046_1034.out; have hnc127 := NB1034_1046.out; have hnb128 := NB1046_1047.out; have hnc128 := NB1047_1046.out; obtain ⟨hcz129_0, hcz129_1, hfz129_0, hfz129_1⟩ := zc2 BK1046; obtain ⟨Ao130, co130, eo130⟩ := Kd.R_slice HO1041.out; subst eo130; have hnb131 := NB1047_1021.out; have hnc131 := NB1021_1047.out; have hnb132 := NB1047_1022.out; have hnc132 := NB1022_1047.out; have hnb133 := NB1047_1034.out; have hnc133 := NB1034_1047.out; obtain ⟨hcz134_0, hcz134_1, hfz134_0, hfz134_1⟩ := zc2 BK1047; obtain ⟨Ao135, co135, eo135⟩ := Kd.R_slice HO1045.out; subst eo135; have hnb136 := NB1022_1021.out; have hnc136 := NB1021_1022.out; have hnb137 := NB1022_1034.out; have hnc137 := NB1034_1022.out; obtain ⟨hcz138_0, hcz138_1, hfz138_0, hfz138_1⟩ := zc2 BK1022) | ((with_reducible refine gate_callee (f := 26) rfl ?_); refine gl (some 73) Try.func26 #[.agg #[.string t1017, .slice Ao16 t1018.length co16], .agg #[.string t1038, .slice Ao130 t1039.length co130]] ?_; (with_reducible refine (impl_ProbeSmaller.calls kj31 t1017 _ _ t1018 t1038 _ _ t1039 false _ ?side1 ?side2 ?side3 ?side4 A71.out).mono ?_); (case side1 => refine (Kd.R_reads' (e := 26) (base := w.heap.size) (ok := fun k_ => (((some k_ ≠ (.slice Ao14 t1014.length co14 : Value).ownBlock ∧ some k_ ≠ (.slice Ao38 t1031.length co38 : Value).ownBlock) ∧ some k_ ≠ (.slice Ao130 t1039.length co130 : Value).ownBlock) ∧ some k_ ≠ (.slice Ao135 t1043.length co135 : Value).ownBlock)) (n := t1018.length) (c := co16) ?_).2.2; exact (Kd.R_mono (Kd.R_mono (rf (Kd.R_types (Kd.R_types HO_1023001.out BK1046.out (by decide)) BK1047.out (by decide))) (fun _ h_ => h_.1)) (fun _ h_ => h_.1))); (case side2 => exact (Kd.R_reads' HO_1023001.out).2.1); (case side3 => refine (Kd.R_reads' (e := 26) (base := w.heap.size) (ok := fun k_ => (((some k_ ≠ (.slice Ao135 t1043.length co135 : Value).ownBlock ∧ some k_ ≠ (.slice Ao14 t1014.length co14 : Value).ownBlock) ∧ some k_ ≠ (.slice Ao16 t1018.length co16 : Value).ownBlock) ∧ some k_ ≠ (.slice Ao38 t1031.length co38 : Value).ownBlock)) (n := t1039.length) (c := co130) ?_).2.2; exact (Kd.R_mono (Kd.R_mono (rf (Kd.R_types (Kd.R_types HO1041.out BK1046.out (by decide)) BK1047.out (by decide))) (fun _ h_ => h_.1)) (fun _ h_ => h_.1))); (case side4 => exact (Kd.R_reads' HO1041.out).2.1); rintro e w139 ⟨rfl, hb⟩; refine ⟨_, rfl, ?_⟩; have _ := ra (Kd.R_below (Kd.R_mono (Kd.R_mono (rf (Kd.R_types (Kd.R_types HO_1022001.out BK1046.out (by decide)) BK1047.out (by decide))) (fun _ h_ => h_.1)) (fun _ h_ => h_.1)) hb); have _ := ra (Kd.R_below (Kd.R_mono (Kd.R_mono (rf (Kd.R_types (Kd.R_types HO_1023001.out BK1046.out (by decide)) BK1047.out (by decide))) (fun _ h_ => h_.1)) (fun _ h_ => h_.1)) hb); have _ := ra (Kd.R_below (Kd.R_mono (Kd.R_mono (rf (Kd.R_types (Kd.R_types HO_1035001.out BK1046.out (by decide)) BK1047.out (by decide))) (fun _ h_ => h_.1)) (fun _ h_ => h_.1)) hb); have _ := ra (Kd.R_below (Kd.R_mono (Kd.R_mono (rf (Kd.R_types (Kd.R_types HO1041.out BK1046.out (by decide)) BK1047.out (by decide))) (fun _ h_ => h_.1)) (fun _ h_ => h_.1)) hb); have _ := ra (Kd.R_below (Kd.R_mono (Kd.R_mono (rf (Kd.R_types (Kd.R_types HO1045.out BK1046.out (by decide)) BK1047.out (by decide))) (fun _ h_ => h_.1)) (fun _ h_ => h_.1)) hb); have _ := bb (bk BK1021) hb; have _ := bb (bk BK1022) hb; have _ := bb (bk BK1034) hb; have _ := bb (o := .cells #[.string t1038, .slice Ao130 t1039.length co130] 39 (0, 0)) (bp BK1046) hb; have _ := bb (o := .cells #[.string t1042, .slice Ao135 t1043.length co135] 39 (0, 0)) (bp BK1047) hb; have _ := bs hb; clear HO_1022001 HO_1023001 HO_1035001 HO1041 HO1045 BK1021 BK1022 BK1034 BK1046 BK1047 HB; rename_i HO_1022001 HO_1023001 HO_1035001 HO1041 HO1045 BK1021 BK1022 BK1034 BK1046 BK1047 HB; (try clear hb); (try clear hb2); (try clear hk); (try clear hi)))
            go_ret
            exact ⟨re, bq⟩
       ·replace c31 := Bool.eq_false_iff.mpr c31
        subst c31
        have H1 : (some true) = some true := rfl
        clear H
        have H := H1
        clear H1 H
        go_wp2_with (first | ((with_reducible refine gate_callee (f := 48) rfl ?_); refine gl (some 43) Try.func48 #[.slice A1 l1.length c1] ?_; (with_reducible refine (spec_DrawProbeWith.calls kj7 _ _ l1 t1027 t1030 t1031 _ ?side1 ?side2 A29.out).mono ?_); (case side1 => exact sc HR1); (case side2 => exact HC1.out); rintro e w140 ⟨v1028, v1032, rfl, ho0, ho1, hb⟩; refine ⟨_, rfl, ?_⟩; have _ := ra (Kd.R_elder' (rq HO_1022001) (Kd.R_base ho1) hb); have _ := ra (Kd.R_elder' (rq HO_1023001) (Kd.R_base ho1) hb); have _ := ra (Kd.S_lower (Kd.S_newB (Kd.S_newB (Kd.S_new' (Kd.S_new' ho0 (Kd.R_lt (rq HO_1022001))) (Kd.R_lt (rq HO_1023001))) (g := gb1021) (o := .cells #[.string t1013, .slice Ao14 t1014.length co14] 39 (0, 0)) (bk BK1021)) (g := gb1022) (o := .cells #[.string t1017, .slice Ao16 t1018.length co16] 39 (0, 0)) (bk BK1022)) (below_size bq)); have _ := ra (Kd.R_lower (Kd.R_new' (Kd.R_new' ho1 (Kd.R_lt (rq HO_1022001))) (Kd.R_lt (rq HO_1023001))) (below_size bq)); have _ := bb (bk BK1021) hb; have _ := bb (bk BK1022) hb; have _ := bs hb; clear HO_1022001 HO_1023001 BK1021 BK1022 HB; rename_i HO_1022001 HO_1023001 HO1029 HO1033 BK1021 BK1022 HB; (try clear hb); (try clear hb2); (try clear hk); (try clear hi); (try clear ho0); (try clear ho1)) | ((with_reducible refine gate_dst (N := 9) rfl ?_); (try (refine gate_guard (by rfl) ?_; dsimp only)); refine be 9 #[.string (⟨#[]⟩ : ByteArray), .slice none 0 0] 39 ?_; intro gb1034 hg w141 hbox hb; have _ := ra (Kd.R_below (rq HO_1022001) hb); have _ := ra (Kd.R_below (rq HO_1023001) hb); have _ := ra (Kd.S_below (Kd.S_elderB (by (with_reducible repeat (first | apply Kd.S_alloc | apply Kd.S_drewN | apply Kd.S_drew)); exact HO1029.out) gb1034 (Nat.le_of_eq hg.symm)) hb); have _ := ra (Kd.R_below (rq HO1033) hb); have _ := bb (bk BK1021) hb; have _ := bb (bk BK1022) hb; have _ := bs hb; have _ := ra (hbox); have _ := bz (w0 := w) hg; have _ := bz (w0 := w) hg; have _ := bn hg (bk BK1021); have _ := bm hg (bk BK1021); have _ := bn hg (bk BK1022); have _ := bm hg (bk BK1022); clear HO_1022001 HO_1023001 HO1029 HO1033 BK1021 BK1022 HB; rename_i HO_1022001 HO_1023001 HO1029 HO1033 BK1021 BK1022 HB BK1034 GW1034 GE1034 NB1021_1034 NB1034_1021 NB1022_1034 NB1034_1022; clear hb hbox hg; have hnb142 := NB1034_1021.out; have hnc142 := NB1021_1034.out; have hnb143 := NB1034_1022.out; have hnc143 := NB1022_1034.out; obtain ⟨hcz144_0, hcz144_1, hfz144_0, hfz144_1⟩ := zc2 BK1034; obtain ⟨Ao145, co145, eo145⟩ := Kd.R_slice HO1033.out; subst eo145; have hnb146 := NB1021_1022.out; have hnc146 := NB1022_1021.out; obtain ⟨hcz147_0, hcz147_1, hfz147_0, hfz147_1⟩ := zc2 BK1021; obtain ⟨hcz148_0, hcz148_1, hfz148_0, hfz148_1⟩ := zc2 BK1022) | ((with_reducible refine gate_callee (f := 25) rfl ?_); refine gl (some 48) Try.func25 #[.agg #[.string t1013, .slice Ao14 t1014.length co14], .agg #[.string t1017, .slice Ao16 t1018.length co16]] ?_; (with_reducible refine (spec_ProbeSmaller.calls kj7 t1013 _ _ t1014 t1017 _ _ t1018 false _ ?side1 ?side2 ?side3 ?side4 A30.out).mono ?_); (case side1 => refine (Kd.R_reads' (e := 26) (base := w.heap.size) (ok := fun k_ => (some k_ ≠ (.slice Ao16 t1018.length co16 : Value).ownBlock ∧ some k_ ≠ (.slice Ao145 t1031.length co145 : Value).ownBlock)) (n := t1014.length) (c := co14) ?_).2.2; exact (Kd.R_mono (rf (Kd.R_types HO_1022001.out BK1034.out (by decide))) (fun _ h_ => h_.1))); (case side2 => exact (Kd.R_reads' HO_1022001.out).2.1); (case side3 => refine (Kd.R_reads' (e := 26) (base := w.heap.size) (ok := fun k_ => (some k_ ≠ (.slice Ao14 t1014.length co14 : Value).ownBlock ∧ some k_ ≠ (.slice Ao145 t1031.length co145 : Value).ownBlock)) (n := t1018.length) (c := co16) ?_).2.2; exact (Kd.R_mono (rf (Kd.R_types HO_1023001.out BK1034.out (by decide))) (fun _ h_ => h_.1))); (case side4 => exact (Kd.R_reads' HO_1023001.out).2.1); rintro e w149 ⟨rfl, hb⟩; refine ⟨_, rfl, ?_⟩; have _ := ra (Kd.R_below (Kd.R_mono (rf (Kd.R_types HO_1022001.out BK1034.out (by decide))) (fun _ h_ => h_.1)) hb); have _ := ra (Kd.R_below (Kd.R_mono (rf (Kd.R_types HO_1023001.out BK1034.out (by decide))) (fun _ h_ => h_.1)) hb); have _ := ra (Kd.S_below (by (with_reducible repeat (first | apply Kd.S_alloc | apply Kd.S_drewN | apply Kd.S_drew)); exact (Kd.S_mono (Kd.S_far (p := ⟨gb1034, 1, none⟩) (Kd.S_far (p := ⟨gb1034, 0, none⟩) (Kd.S_mono HO1029.out (fun k_ hk => (⟨hk, hk.2⟩ : _ ∧ k_ ≠ gb1034))) (fun _ hk => hk.2) (.string t1030)) (fun _ hk => hk.2) (.slice Ao145 t1031.length co145)) (fun _ h_ => h_.1))) hb); have _ := ra (Kd.R_below (Kd.R_mono (rf (Kd.R_types HO1033.out BK1034.out (by decide))) (fun _ h_ => h_.1)) hb); have _ := bb (bk BK1021) hb; have _ := bb (bk BK1022) hb; have _ := bb (o := .cells #[.string t1030, .slice Ao145 t1031.length co145] 39 (0, 0)) (bp BK1034) hb; have _ := bs hb; clear HO_1022001 HO_1023001 HO1029 HO1033 BK1021 BK1022 BK1034 HB; rename_i HO_1022001 HO_1023001 HO1029 HO1033 BK1021 BK1022 BK1034 HB; (try clear hb); (try clear hb2); (try clear hk); (try clear hi)))
        go_ret
        exact ⟨re, bq⟩
end Go.Proofs.Ytfoapgcnjnogiaa.PA
