/- Contracts of the functions laws_FnCut. (Began as a print of the kit's tool.) -/
import Derived.Test.YtfoapgcnjnogiaaPAd
import Derived.Test.YtfoapgcnjnogiaaCx
import Derived.Test.YtfoapgcnjnogiaaCy
import Derived.Test.YtfoapgcnjnogiaaC41
import Derived.Test.YtfoapgcnjnogiaaGCut
import Derived.Test.YtfoapgcnjnogiaaGCut
import Derived.Test.YtfoapgcnjnogiaaC42
import Derived.Test.YtfoapgcnjnogiaaGBase
import Derived.Test.YtfoapgcnjnogiaaGSmall
import Derived.Test.YtfoapgcnjnogiaaGNear
namespace Go.Proofs.Ytfoapgcnjnogiaa.PA
open Go.RowKit Go.Proofs.YtfoapgcnjnogiaaW.PrintWords Go.Proofs.YtfoapgcnjnogiaaW.PrintLast Go.Proofs.YtfoapgcnjnogiaaW.PrintMore Go.Proofs.Ytfoapgcnjnogiaa.Z
attribute [local go_sem] max2_int min2_int max_two min_two max_three min_three max_four min_four
set_option linter.unusedVariables false
set_option linter.unusedSimpArgs false
def laws_FnCut.T10 : Bool × List (List Nat × List Nat) := (true, [([], []), ([0], [0]), ([1], [1]), ([2], [2]), ([2], [2]), ([3, 4, 2, 2], [2, 3, 4]), ([5, 2], [2, 5]), ([2, 6], [2, 6]), ([7, 5], [7]), ([8], [8]), ([8], [8]), ([9, 10, 8, 8], [8, 9, 10]), ([8], [8]), ([11, 12, 11, 8], [8, 11, 12]), ([13, 8], [8, 13]), ([8, 14], [8, 14]), ([15, 13], [15]), ([16], [16]), ([16], [16]), ([17, 18, 16], [16, 17, 18]), ([19, 16, 16], [16, 19]), ([20], [20]), ([20], [20]), ([21, 22, 20, 20], [20, 21, 22]), ([20], [20]), ([20], [20]), ([24, 25, 23, 20], [20, 24, 25]), ([23, 26, 26, 20], [20, 23, 26]), ([27, 20], [20, 27]), ([20, 28, 16], [16, 20, 28]), ([16, 29], [16, 29])])
def laws_FnCut.B10 : List Nat := [0, 1, 3, 7, 7, 31, 63, 127, 255, 511, 511, 2047, 511, 8191, 16383, 32767, 65535, 131071, 131071, 524287, 1048575, 2097151, 2097151, 8388607, 2097151, 2097151, 67108863, 134217727, 268435455, 536870911, 1073741823]
theorem laws_FnCut.tab10 : rtab .any (opsOf Try.f12 10) = laws_FnCut.T10 := by kernel_rfl
theorem laws_FnCut.bits10 : waitsOk laws_FnCut.T10.2 laws_FnCut.B10 = true := by kernel_rfl
def laws_FnCut.T15 : Bool × List (List Nat × List Nat) := (true, [([], []), ([0], [0]), ([1], [1]), ([2], [2]), ([3, 2], [2, 3]), ([2, 4], [2, 4]), ([5, 2], [5]), ([6], [6]), ([7, 6, 6], [6, 7]), ([6, 8], [6, 8]), ([9, 8], [9]), ([10], [10]), ([10], [10]), ([10], [10]), ([10], [10]), ([14, 10], [10, 14]), ([13, 15, 10], [10, 13, 15]), ([11, 12, 16, 10, 10], [10, 11, 12, 16]), ([10], [10]), ([10], [10]), ([10], [10]), ([10], [10]), ([21, 10], [10, 21]), ([20, 22, 10], [10, 20, 22]), ([18, 19, 23, 17, 10], [10, 18, 19, 23]), ([17, 24, 10], [10, 17, 24]), ([10, 25], [10, 25]), ([26, 24], [26]), ([27], [27]), ([28, 27], [27, 28]), ([29, 27, 27], [27, 29]), ([30], [30]), ([31, 30], [30, 31]), ([30, 32, 27], [27, 30, 32]), ([33, 30, 27], [27, 33]), ([34], [34]), ([34], [34]), ([34], [34]), ([37, 34], [34, 37]), ([35, 36, 38, 34, 34], [34, 35, 36, 38]), ([34, 39, 27], [27, 34, 39]), ([27, 40], [27, 40])])
def laws_FnCut.B15 : List Nat := [0, 1, 3, 7, 15, 31, 63, 127, 255, 511, 1023, 2047, 2047, 2047, 2047, 18431, 59391, 131071, 2047, 2047, 2047, 2047, 2099199, 7342079, 16777215, 33554431, 67108863, 134217727, 268435455, 536870911, 1073741823, 2147483647, 4294967295, 8589934591, 17179869183, 34359738367, 34359738367, 34359738367, 171798691839, 549755813887, 1099511627775, 2199023255551]
theorem laws_FnCut.tab15 : rtab .any (opsOf Try.f12 15) = laws_FnCut.T15 := by kernel_rfl
theorem laws_FnCut.bits15 : waitsOk laws_FnCut.T15.2 laws_FnCut.B15 = true := by kernel_rfl
set_option maxHeartbeats 8000000 in
set_option maxRecDepth 100000 in
theorem laws_FnCut.calls (k : Nat) (A0 : Option Addr) (c0 : Nat) (l0 : List Int) (A1 : Option Addr) (c1 : Nat) (l1 : List Int) (w : World) (hr0 : Kd.C (Kd.int .u8) w A0 l0.length l0) (hc0 : l0.length ≤ c0) (hr1 : Kd.C (Kd.int .u8) w A1 l1.length l1) (hc1 : l1.length ≤ c1) (h : laws_FnCut.f k l0 l1 = some true) :
  Calls Try.prog 12 #[.slice A0 l0.length c0, .slice A1 l1.length c1] w fun e w' => e = .returned (.bool true) ∧ Below w.heap.size w w' := by
 have hu39 := Try.underlying39
 have HR0 := Aside0.mk hr0
 have HC0 := Aside0.mk hc0
 clear hr0 hc0
 have HR1 := Aside0.mk hr1
 have HC1 := Aside0.mk hc1
 clear hr1 hc1
 have HB := ra (Below.refl w.heap.size w)
 have H : (if (l0.length : Int) > 1048576 then (laws_FnCut.j0 k l0 l1 true) else (laws_FnCut.j0 k l0 l1 (decide ((l1.length : Int) > 1048576)))) = some true := h
 clear h
 have HC3 := Aside0.mk H
 clear H
 go_enter Try.func12, Try.ntmps12
 go_upto_region 1 with (fail)
 go_cut [18] (fun v18 wc => ∃ (kq : Nat) (x18_2 : Bool), v18 = .bool x18_2 ∧ Aside0 (laws_FnCut.j0 kq l0 l1 x18_2 = some true) ∧ Aside0 (kq ≤ k) ∧ Aside0 (Below w.heap.size w wc))
 case first =>
  have H := HC3.out
  clear HC3
  by_cases c4 : (l0.length : Int) > 1048576
  ·rw [if_pos c4] at H
   have c4b0 : decide (1048576 < (l0.length : Int)) = true := decide_eq_true c4
   have c4b1 : decide (1048576 < l0.length) = true := decide_eq_true (by omega)
   clear c4
   (first | rw [c4b0] | (simp only [i64_w, i32_w]; rw [c4b0]) | skip)
   have H' := Aside0.mk H
   clear H
   go_wp2
   go_meet
   case rel => exact ⟨_, (true), rs, H', ⟨by first | omega | exact Nat.le_refl _⟩, ⟨bq⟩⟩
  ·rw [if_neg c4] at H
   have c4b0 : decide (1048576 < (l0.length : Int)) = false := decide_eq_false c4
   have c4b1 : decide (1048576 < l0.length) = false := decide_eq_false (by omega)
   clear c4
   (first | rw [c4b0] | (simp only [i64_w, i32_w]; rw [c4b0]) | skip)
   have H' := Aside0.mk H
   clear H
   go_wp2
   go_meet
   case rel => exact ⟨_, (decide ((l1.length : Int) > 1048576)), rs, H', ⟨by first | omega | exact Nat.le_refl _⟩, ⟨bq⟩⟩
 case rest =>
  clear HC3
  try clear c1
  try clear c4
  try clear c4b0
  try clear c4b1
  obtain ⟨kq, x18_2, rfl, HA, HJ2, HB⟩ := hcut
  cases kq with
  | zero => exact absurd HA.out (by simp [laws_FnCut.j0])
  | succ kj2 =>
   have H := HA.out
   clear HA
   simp only [laws_FnCut.j0] at H
   by_cases c5 : x18_2 = true
   ·subst c5
    have H1 : (some true) = some true := rfl
    clear H
    have H := H1
    clear H1 H
    go_wp2
    go_ret
    exact ⟨re, bq⟩
   ·replace c5 := Bool.eq_false_iff.mpr c5
    subst c5
    have H1 : ((spec_DrawProbeCut.f kj2 l0).bind fun bt771 => ((impl_ProbeCut.f kj2 bt771.1 bt771.2.1 bt771.2.2).bind fun bt777 => ((spec_ProbeCut.f kj2 bt771.1 bt771.2.1 bt771.2.2).bind fun bt782 => ((laws_wTube.f kj2 bt777.1 bt777.2 bt782.1 bt782.2).bind fun t786 => (if t786 = true then ((spec_ProbeTubeOk.f kj2 bt771.1 bt771.2.1).bind fun t787 => (if t787 = true then ((spec_DrawProbeCut.f kj2 l1).bind fun bt789 => (if bt771.2.2 ≤ 10000 then ((impl_ProbeSmaller.f kj2 bt777.1 bt777.2 bt771.1 bt771.2.1).bind fun t795 => (if t795 = true then ((impl_ProbeCut.f kj2 bt777.1 bt777.2 bt771.2.2).bind fun bt796 => ((laws_wTube.f kj2 bt796.1 bt796.2 bt777.1 bt777.2).bind fun t800 => (if t800 = true then (if bt771.2.2 ≤ bt789.2.2 then ((impl_ProbeCut.f kj2 bt777.1 bt777.2 bt789.2.2).bind fun bt801 => ((impl_ProbeCut.f kj2 bt771.1 bt771.2.1 bt789.2.2).bind fun bt805 => ((laws_wTube.f kj2 bt801.1 bt801.2 bt805.1 bt805.2).bind fun t809 => (laws_FnCut.j1 kj2 bt771.2.2 (!t809) bt771.1 bt771.2.1 bt777.1 bt777.2 bt789.1 bt789.2.1)))) else (laws_FnCut.j1 kj2 bt771.2.2 false bt771.1 bt771.2.1 bt777.1 bt777.2 bt789.1 bt789.2.1)) else (laws_FnCut.j1 kj2 bt771.2.2 true bt771.1 bt771.2.1 bt777.1 bt777.2 bt789.1 bt789.2.1)))) else (laws_FnCut.j1 kj2 bt771.2.2 true bt771.1 bt771.2.1 bt777.1 bt777.2 bt789.1 bt789.2.1))) else ((impl_ProbeCut.f kj2 bt777.1 bt777.2 bt771.2.2).bind fun bt810 => ((laws_wTube.f kj2 bt810.1 bt810.2 bt777.1 bt777.2).bind fun t814 => (if t814 = true then (if bt771.2.2 ≤ bt789.2.2 then ((impl_ProbeCut.f kj2 bt777.1 bt777.2 bt789.2.2).bind fun bt815 => ((impl_ProbeCut.f kj2 bt771.1 bt771.2.1 bt789.2.2).bind fun bt819 => ((laws_wTube.f kj2 bt815.1 bt815.2 bt819.1 bt819.2).bind fun t823 => (laws_FnCut.j1 kj2 bt771.2.2 (!t823) bt771.1 bt771.2.1 bt777.1 bt777.2 bt789.1 bt789.2.1)))) else (laws_FnCut.j1 kj2 bt771.2.2 false bt771.1 bt771.2.1 bt777.1 bt777.2 bt789.1 bt789.2.1)) else (laws_FnCut.j1 kj2 bt771.2.2 true bt771.1 bt771.2.1 bt777.1 bt777.2 bt789.1 bt789.2.1)))))) else ((laws_wTube.f kj2 bt777.1 bt777.2 (⟨#[]⟩ : ByteArray) ([] : List (S26))).bind fun t788 => (some t788)))) else (some false)))))) = some true := by rw [if_neg (show ¬ (false = true) by decide)] at H; exact H
    clear H
    have H := H1
    clear H1
    obtain ⟨⟨t771, t772, t775⟩, A6, H⟩ := bo H
    try dsimp only at H
    obtain ⟨⟨t777, t778⟩, A7, H⟩ := bo H
    try dsimp only at H
    obtain ⟨⟨t782, t783⟩, A8, H⟩ := bo H
    try dsimp only at H
    obtain ⟨t786, A9, H⟩ := bo H
    by_cases c10 : t786 = true
    ·subst c10
     replace H := it H rfl
     obtain ⟨t787, A11, H⟩ := bo H
     by_cases c12 : t787 = true
     ·subst c12
      replace H := it H rfl
      obtain ⟨⟨t789, t790, t793⟩, A13, H⟩ := bo H
      try dsimp only at H
      have HC14 := Aside0.mk H
      clear H
      try go_wp2_with (first | ((with_reducible refine gate_callee (f := 41) rfl ?_); refine gl (some 21) Try.func41 #[.slice A0 l0.length c0] ?_; (with_reducible refine (spec_DrawProbeCut.calls kj2 _ _ l0 t771 t772 t775 _ ?side1 ?side2 A6.out).mono ?_); (case side1 => exact sc HR0); (case side2 => exact HC0.out); rintro e w15 ⟨v773, rfl, ho0, hb⟩; refine ⟨_, rfl, ?_⟩; have _ := ra (Kd.R_lower ho0 (below_size bq)); have _ := bs hb; clear HB; rename_i HO774 HB; (try clear hb); (try clear hb2); (try clear hk); (try clear hi); (try clear ho0)) | ((with_reducible refine gate_dst (N := 5) rfl ?_); (try (refine gate_guard (by rfl) ?_; dsimp only)); refine be 5 #[.string (⟨#[]⟩ : ByteArray), .slice none 0 0] 39 ?_; intro gb776 hg w16 hbox hb; have _ := ra (Kd.R_below (rq HO774) hb); have _ := bs hb; have _ := ra (hbox); have _ := bz (w0 := w) hg; have _ := bz (w0 := w) hg; clear HO774 HB; rename_i HO774 HB BK776 GW776 GE776; clear hb hbox hg; obtain ⟨hcz17_0, hcz17_1, hfz17_0, hfz17_1⟩ := zc2 BK776; obtain ⟨Ao18, co18, eo18⟩ := Kd.R_slice HO774.out; subst eo18) | ((with_reducible refine gate_callee (f := 36) rfl ?_); refine gl (some 26) Try.func36 #[.agg #[.string t771, .slice Ao18 t772.length co18], .int .i64 t775] ?_; (with_reducible refine (impl_ProbeCut.calls kj2 t771 _ _ t772 t775 t777 t778 _ ?side1 ?side2 A7.out).mono ?_); (case side1 => refine (Kd.R_reads' (e := 26) (base := w.heap.size) (ok := fun k_ => True) (n := t772.length) (c := co18) ?_).2.2; exact (Kd.R_mono (rf (Kd.R_types HO774.out BK776.out (by decide))) (fun _ h_ => h_.1))); (case side2 => exact (Kd.R_reads' HO774.out).2.1); rintro e w19 ⟨v779, rfl, ho0, hb⟩; refine ⟨_, rfl, ?_⟩; have _ := ra (Kd.R_elder' (Kd.R_mono (rf (Kd.R_types HO774.out BK776.out (by decide))) (fun _ h_ => h_.1)) (Kd.R_base ho0) hb); have _ := ra (Kd.R_lower (Kd.R_new' ho0 (Kd.R_lt (Kd.R_mono (rf (Kd.R_types HO774.out BK776.out (by decide))) (fun _ h_ => h_.1)))) (below_size bq)); have _ := bb (o := .cells #[.string t771, .slice Ao18 t772.length co18] 39 (0, 0)) (bp BK776) hb; have _ := bs hb; clear HO774 BK776 HB; rename_i HO774 HO780 BK776 HB; (try clear hb); (try clear hb2); (try clear hk); (try clear hi); (try clear ho0)) | ((with_reducible refine gate_dst (N := 7) rfl ?_); (try (refine gate_guard (by rfl) ?_; dsimp only)); refine be 7 #[.string (⟨#[]⟩ : ByteArray), .slice none 0 0] 39 ?_; intro gb781 hg w20 hbox hb; have _ := ra (Kd.R_below (rq HO774) hb); have _ := ra (Kd.R_below (rq HO780) hb); have _ := bb (bk BK776) hb; have _ := bs hb; have _ := ra (hbox); have _ := bz (w0 := w) hg; have _ := bz (w0 := w) hg; have _ := bn hg (bk BK776); have _ := bm hg (bk BK776); clear HO774 HO780 BK776 HB; rename_i HO774 HO780 BK776 HB BK781 GW781 GE781 NB776_781 NB781_776; clear hb hbox hg; have hnb21 := NB781_776.out; have hnc21 := NB776_781.out; obtain ⟨hcz22_0, hcz22_1, hfz22_0, hfz22_1⟩ := zc2 BK781; obtain ⟨Ao23, co23, eo23⟩ := Kd.R_slice HO780.out; subst eo23))
      have n0 : Aside0 (Kd.R k26 26 ((w20.setCell ⟨gb781, 0, none⟩ (.string t777)).setCell ⟨gb781, 1, none⟩ (.slice Ao23 t778.length co23)) w.heap.size (fun k_ => some k_ ≠ (.slice Ao23 t778.length co23 : Value).ownBlock) (.slice Ao18 t772.length co18) t772) := ⟨by (with_reducible repeat (first | apply Kd.R_alloc | apply Kd.R_drewN | apply Kd.R_drew)); exact Kd.R_mono (rf (Kd.R_types HO774.out BK781.out (by decide))) (fun _ hk => hk.1.2)⟩
      have n1 : Aside0 (Kd.R k26 26 ((w20.setCell ⟨gb781, 0, none⟩ (.string t777)).setCell ⟨gb781, 1, none⟩ (.slice Ao23 t778.length co23)) w.heap.size (fun k_ => some k_ ≠ (.slice Ao18 t772.length co18 : Value).ownBlock) (.slice Ao23 t778.length co23) t778) := ⟨by (with_reducible repeat (first | apply Kd.R_alloc | apply Kd.R_drewN | apply Kd.R_drew)); exact Kd.R_mono (rf (Kd.R_types HO780.out BK781.out (by decide))) (fun _ hk => hk.1.2)⟩
      have n2 : Aside0 (((w20.setCell ⟨gb781, 0, none⟩ (.string t777)).setCell ⟨gb781, 1, none⟩ (.slice Ao23 t778.length co23)).heap[gb776]? = some (.cells #[.string t771, .slice Ao18 t772.length co18] 39 (0, 0))) := ⟨bk BK776⟩
      have n3 : Aside0 (((w20.setCell ⟨gb781, 0, none⟩ (.string t777)).setCell ⟨gb781, 1, none⟩ (.slice Ao23 t778.length co23)).heap[gb781]? = some (.cells #[.string t777, .slice Ao23 t778.length co23] 39 (0, 0))) := ⟨bp BK781⟩
      have n4 : Aside0 (Below w.heap.size w ((w20.setCell ⟨gb781, 0, none⟩ (.string t777)).setCell ⟨gb781, 1, none⟩ (.slice Ao23 t778.length co23))) := ⟨bq⟩
      (try clear HO774)
      (try clear HO780)
      (try clear BK776)
      (try clear BK781)
      (try clear HB)
      generalize ((w20.setCell ⟨gb781, 0, none⟩ (.string t777)).setCell ⟨gb781, 1, none⟩ (.slice Ao23 t778.length co23)) = w24 at n0 n1 n2 n3 n4 ⊢
      have HO774 := n0
      have HO780 := n1
      have BK776 := n2
      have BK781 := n3
      have HB := n4
      clear n0 n1 n2 n3 n4
      have _ := ra (Kd.R_drew HO774.out)
      have _ := ra (Kd.R_drew HO780.out)
      have _ := ra (blk_drew BK776.out)
      have _ := ra (blk_drew BK781.out)
      have _ := ra (below_drew1 HB.out)
      clear HO774 HO780 BK776 BK781 HB
      rename_i HO774 HO780 BK776 BK781 HB
      refine start_ (n := 6) (S := fun w' => w'.cell? ⟨gb781, 0, none⟩ = some (.string t777) ∧ w'.cell? ⟨gb781, 1, none⟩ = some (.slice Ao23 t778.length co23) ∧ w'.cell? ⟨gb776, 0, none⟩ = some (.string t771) ∧ w'.cell? ⟨gb776, 1, none⟩ = some (.slice Ao18 t772.length co18)) (ds := []) (bl 6 0) (by kernel_rfl) rfl rfl ⟨(blk_cell BK781.out 0).trans rfl, (blk_cell BK781.out 1).trans rfl, (blk_cell BK776.out 0).trans rfl, (blk_cell BK776.out 1).trans rfl⟩ (fun hHeld => ?_)
      generalize w24.drew = w25 at HO774 HO780 BK776 BK781 HB hHeld ⊢
      refine pu 2 29 (bl 6 4) ?_
      refine tk 0 27 (bl 6 5) ?_ hHeld
      refine tk 1 28 (bl 6 7) ?_ hHeld
      refine oe 3 30 (bl 6 15) (fun K hK => ?_)
      refine gs Try.func35 #[.agg #[.string t771, .slice Ao18 t772.length co18], .int .i64 t775] ?_
      with_reducible refine (spec_ProbeCut.calls kj2 t771 _ _ t772 t775 t782 t783 _ ?side1 ?side2 A8.out).mono ?_
      (case side1 => exact sr HO774)
      (case side2 => exact (Kd.R_reads' HO774.out).2.1)
      rintro e w26 ⟨v784, rfl, ho0, hb⟩
      refine ⟨_, rfl, ?_⟩
      have _ := ra (Kd.R_elder' (rq HO774) (Kd.R_base ho0) hb)
      have _ := ra (Kd.R_elder' (rq HO780) (Kd.R_base ho0) hb)
      have _ := ra (Kd.R_lower (Kd.R_new' (Kd.R_new' ho0 (Kd.R_lt (rq HO774))) (Kd.R_lt (rq HO780))) (below_size bq))
      have _ := bb (bk BK776) hb
      have _ := bb (bk BK781) hb
      have _ := bs hb
      clear HO774 HO780 BK776 BK781 HB
      rename_i HO774 HO780 HO785 BK776 BK781 HB
      (try clear hb)
      (try clear hb2)
      (try clear hk)
      (try clear hi)
      (try clear ho0)
      obtain ⟨Ao27, co27, eo27⟩ := Kd.R_slice HO785.out
      (first | subst eo27 | (injection eo27 with f1_ f2_ f3_; have f4_ := f1_.symm; have f5_ := f3_.symm; clear f1_ f2_ f3_; subst f4_; subst f5_))
      refine hK.out _ _ ⟨(blk_cell BK781.out 0).trans rfl, (blk_cell BK781.out 1).trans rfl, (blk_cell BK776.out 0).trans rfl, (blk_cell BK776.out 1).trans rfl⟩ (fun hHeld => ?_)
      clear hK K
      refine nm 30 ?_
      refine oe 4 31 (bl 6 31) (fun K hK => ?_)
      refine gs Try.func42 #[.agg #[.string t777, .slice Ao23 t778.length co23], .agg #[.string t782, .slice Ao27 t783.length co27]] ?_
      with_reducible refine (laws_wTube.calls kj2 t777 _ _ t778 t782 _ _ t783 true _ ?side1 ?side2 ?side3 ?side4 A9.out).mono ?_
      (case side1 => exact sr HO780)
      (case side2 => exact (Kd.R_reads' HO780.out).2.1)
      (case side3 => exact sr HO785)
      (case side4 => exact (Kd.R_reads' HO785.out).2.1)
      rintro e w28 ⟨rfl, hb⟩
      refine ⟨_, rfl, ?_⟩
      have _ := ra (Kd.R_below (rq HO774) hb)
      have _ := ra (Kd.R_below (rq HO780) hb)
      have _ := ra (Kd.R_below (rq HO785) hb)
      have _ := bb (bk BK776) hb
      have _ := bb (bk BK781) hb
      have _ := bs hb
      clear HO774 HO780 HO785 BK776 BK781 HB
      rename_i HO774 HO780 HO785 BK776 BK781 HB
      (try clear hb)
      (try clear hb2)
      (try clear hk)
      (try clear hi)
      refine hK.out _ _ ⟨(blk_cell BK781.out 0).trans rfl, (blk_cell BK781.out 1).trans rfl, (blk_cell BK776.out 0).trans rfl, (blk_cell BK776.out 1).trans rfl⟩ (fun hHeld => ?_)
      clear hK K
      refine nm 31 ?_
      refine pu 5 32 (bl 6 63) ?_
      refine done_ (by kernel_rfl) ?_
      obtain ⟨hcz29_0, hcz29_1, hfz29_0, hfz29_1⟩ := zc2 BK776
      go_upto_region 10 with (first | ((with_reducible refine gate_callee (f := 21) rfl ?_); refine gl (some 34) Try.func21 #[.agg #[.string t771, .slice Ao18 t772.length co18]] ?_; (with_reducible refine (spec_ProbeTubeOk.calls kj2 t771 _ _ t772 true _ ?side1 ?side2 A11.out).mono ?_); (case side1 => exact sr HO774); (case side2 => exact (Kd.R_reads' HO774.out).2.1); rintro e w30 ⟨rfl, hb⟩; refine ⟨_, rfl, ?_⟩; have _ := ra (Kd.R_below (rq HO774) hb); have _ := ra (Kd.R_below (rq HO780) hb); have _ := ra (Kd.R_below (rq HO785) hb); have _ := bb (bk BK776) hb; have _ := bb (bk BK781) hb; have _ := bs hb; clear HO774 HO780 HO785 BK776 BK781 HB; rename_i HO774 HO780 HO785 BK776 BK781 HB; (try clear hb); (try clear hb2); (try clear hk); (try clear hi)) | ((with_reducible refine gate_callee (f := 41) rfl ?_); refine gl (some 41) Try.func41 #[.slice A1 l1.length c1] ?_; (with_reducible refine (spec_DrawProbeCut.calls kj2 _ _ l1 t789 t790 t793 _ ?side1 ?side2 A13.out).mono ?_); (case side1 => exact sc HR1); (case side2 => exact HC1.out); rintro e w31 ⟨v791, rfl, ho0, hb⟩; refine ⟨_, rfl, ?_⟩; have _ := ra (Kd.R_elder' (rq HO774) (Kd.R_base ho0) hb); have _ := ra (Kd.R_elder' (rq HO780) (Kd.R_base ho0) hb); have _ := ra (Kd.R_elder' (rq HO785) (Kd.R_base ho0) hb); have _ := ra (Kd.R_lower (Kd.R_new' (Kd.R_new' (Kd.R_new' ho0 (Kd.R_lt (rq HO774))) (Kd.R_lt (rq HO780))) (Kd.R_lt (rq HO785))) (below_size bq)); have _ := bb (bk BK776) hb; have _ := bb (bk BK781) hb; have _ := bs hb; clear HO774 HO780 HO785 BK776 BK781 HB; rename_i HO774 HO780 HO785 HO792 BK776 BK781 HB; (try clear hb); (try clear hb2); (try clear hk); (try clear hi); (try clear ho0)) | ((with_reducible refine gate_dst (N := 8) rfl ?_); (try (refine gate_guard (by rfl) ?_; dsimp only)); refine be 8 #[.string (⟨#[]⟩ : ByteArray), .slice none 0 0] 39 ?_; intro gb794 hg w32 hbox hb; have _ := ra (Kd.R_below (rq HO774) hb); have _ := ra (Kd.R_below (rq HO780) hb); have _ := ra (Kd.R_below (rq HO785) hb); have _ := ra (Kd.R_below (rq HO792) hb); have _ := bb (bk BK776) hb; have _ := bb (bk BK781) hb; have _ := bs hb; have _ := ra (hbox); have _ := bz (w0 := w) hg; have _ := bz (w0 := w) hg; have _ := bn hg (bk BK776); have _ := bm hg (bk BK776); have _ := bn hg (bk BK781); have _ := bm hg (bk BK781); clear HO774 HO780 HO785 HO792 BK776 BK781 HB; rename_i HO774 HO780 HO785 HO792 BK776 BK781 HB BK794 GW794 GE794 NB776_794 NB794_776 NB781_794 NB794_781; clear hb hbox hg; have hnb33 := NB794_776.out; have hnc33 := NB776_794.out; have hnb34 := NB794_781.out; have hnc34 := NB781_794.out; obtain ⟨hcz35_0, hcz35_1, hfz35_0, hfz35_1⟩ := zc2 BK794; obtain ⟨Ao36, co36, eo36⟩ := Kd.R_slice HO792.out; subst eo36))
      (try simp only [Act.put, List.setIfInBounds_toArray, List.set_cons_zero, List.set_cons_succ])
      go_cut [74] (fun v74 wc => ∃ (kq : Nat) (x74_13 : Bool), v74 = .bool x74_13 ∧ Aside0 (laws_FnCut.j1 kq t775 x74_13 t771 t772 t777 t778 t789 t790 = some true) ∧ Aside0 (kq ≤ kj2) ∧ Aside0 (Kd.R k26 26 wc w.heap.size (fun k_ => some k_ ≠ ((.slice Ao23 t778.length co23) : Value).ownBlock ∧ some k_ ≠ ((.slice Ao36 t790.length co36) : Value).ownBlock) (.slice Ao18 t772.length co18) t772) ∧ Aside0 (Kd.R k26 26 wc w.heap.size (fun k_ => some k_ ≠ ((.slice Ao18 t772.length co18) : Value).ownBlock ∧ some k_ ≠ ((.slice Ao36 t790.length co36) : Value).ownBlock) (.slice Ao23 t778.length co23) t778) ∧ Aside0 (Kd.R k26 26 wc w.heap.size (fun k_ => some k_ ≠ ((.slice Ao18 t772.length co18) : Value).ownBlock ∧ some k_ ≠ ((.slice Ao23 t778.length co23) : Value).ownBlock) (.slice Ao36 t790.length co36) t790) ∧ Aside0 (wc.heap[gb776]? = some (.cells #[.string t771, (.slice Ao18 t772.length co18)] 39 (0, 0))) ∧ Aside0 (wc.heap[gb781]? = some (.cells #[.string t777, (.slice Ao23 t778.length co23)] 39 (0, 0))) ∧ Aside0 (wc.heap[gb794]? = some (.cells #[.string t789, (.slice Ao36 t790.length co36)] 39 (0, 0))) ∧ Aside0 (Below w.heap.size w wc))
      case first =>
       have H := HC14.out
       clear HC14
       by_cases c37 : t775 ≤ 10000
       ·rw [if_pos c37] at H
        have c37b0 : decide (t775 ≤ 10000) = true := decide_eq_true c37
        clear c37
        (first | rw [c37b0] | (simp only [i64_w, i32_w]; rw [c37b0]) | skip)
        obtain ⟨t795, A38, H⟩ := bo H
        by_cases c39 : t795 = true
        ·subst c39
         replace H := it H rfl
         obtain ⟨⟨t796, t797⟩, A40, H⟩ := bo H
         try dsimp only at H
         obtain ⟨t800, A41, H⟩ := bo H
         by_cases c42 : t800 = true
         ·subst c42
          replace H := it H rfl
          by_cases c43 : t775 ≤ t793
          ·rw [if_pos c43] at H
           have c43b0 : decide (t775 ≤ t793) = true := decide_eq_true c43
           clear c43
           obtain ⟨⟨t801, t802⟩, A44, H⟩ := bo H
           try dsimp only at H
           obtain ⟨⟨t805, t806⟩, A45, H⟩ := bo H
           try dsimp only at H
           obtain ⟨t809, A46, H⟩ := bo H
           have H' := Aside0.mk H
           clear H
           try go_wp2
           have n0 : Aside0 (Kd.R k26 26 ((w32.setCell ⟨gb794, 0, none⟩ (.string t789)).setCell ⟨gb794, 1, none⟩ (.slice Ao36 t790.length co36)) w.heap.size (fun k_ => some k_ ≠ (.slice Ao23 t778.length co23 : Value).ownBlock ∧ some k_ ≠ (.slice Ao27 t783.length co27 : Value).ownBlock ∧ some k_ ≠ (.slice Ao36 t790.length co36 : Value).ownBlock) (.slice Ao18 t772.length co18) t772) := ⟨by (with_reducible repeat (first | apply Kd.R_alloc | apply Kd.R_drewN | apply Kd.R_drew)); exact Kd.R_mono (rf (Kd.R_types HO774.out BK794.out (by decide))) (fun _ hk => ⟨hk.1.1.1, ⟨hk.1.1.2, hk.1.2⟩⟩)⟩
           have n1 : Aside0 (Kd.R k26 26 ((w32.setCell ⟨gb794, 0, none⟩ (.string t789)).setCell ⟨gb794, 1, none⟩ (.slice Ao36 t790.length co36)) w.heap.size (fun k_ => some k_ ≠ (.slice Ao18 t772.length co18 : Value).ownBlock ∧ some k_ ≠ (.slice Ao27 t783.length co27 : Value).ownBlock ∧ some k_ ≠ (.slice Ao36 t790.length co36 : Value).ownBlock) (.slice Ao23 t778.length co23) t778) := ⟨by (with_reducible repeat (first | apply Kd.R_alloc | apply Kd.R_drewN | apply Kd.R_drew)); exact Kd.R_mono (rf (Kd.R_types HO780.out BK794.out (by decide))) (fun _ hk => ⟨hk.1.1.1, ⟨hk.1.1.2, hk.1.2⟩⟩)⟩
           have n2 : Aside0 (Kd.R k26 26 ((w32.setCell ⟨gb794, 0, none⟩ (.string t789)).setCell ⟨gb794, 1, none⟩ (.slice Ao36 t790.length co36)) w.heap.size (fun k_ => some k_ ≠ (.slice Ao18 t772.length co18 : Value).ownBlock ∧ some k_ ≠ (.slice Ao23 t778.length co23 : Value).ownBlock ∧ some k_ ≠ (.slice Ao36 t790.length co36 : Value).ownBlock) (.slice Ao27 t783.length co27) t783) := ⟨by (with_reducible repeat (first | apply Kd.R_alloc | apply Kd.R_drewN | apply Kd.R_drew)); exact Kd.R_mono (rf (Kd.R_types HO785.out BK794.out (by decide))) (fun _ hk => ⟨hk.1.1.1.2, ⟨hk.1.1.2, hk.1.2⟩⟩)⟩
           have n3 : Aside0 (Kd.R k26 26 ((w32.setCell ⟨gb794, 0, none⟩ (.string t789)).setCell ⟨gb794, 1, none⟩ (.slice Ao36 t790.length co36)) w.heap.size (fun k_ => some k_ ≠ (.slice Ao18 t772.length co18 : Value).ownBlock ∧ some k_ ≠ (.slice Ao23 t778.length co23 : Value).ownBlock ∧ some k_ ≠ (.slice Ao27 t783.length co27 : Value).ownBlock) (.slice Ao36 t790.length co36) t790) := ⟨by (with_reducible repeat (first | apply Kd.R_alloc | apply Kd.R_drewN | apply Kd.R_drew)); exact Kd.R_mono (rf (Kd.R_types HO792.out BK794.out (by decide))) (fun _ hk => ⟨hk.1.1.1.2, ⟨hk.1.1.2, hk.1.2⟩⟩)⟩
           have n4 : Aside0 (((w32.setCell ⟨gb794, 0, none⟩ (.string t789)).setCell ⟨gb794, 1, none⟩ (.slice Ao36 t790.length co36)).heap[gb776]? = some (.cells #[.string t771, .slice Ao18 t772.length co18] 39 (0, 0))) := ⟨bk BK776⟩
           have n5 : Aside0 (((w32.setCell ⟨gb794, 0, none⟩ (.string t789)).setCell ⟨gb794, 1, none⟩ (.slice Ao36 t790.length co36)).heap[gb781]? = some (.cells #[.string t777, .slice Ao23 t778.length co23] 39 (0, 0))) := ⟨bk BK781⟩
           have n6 : Aside0 (((w32.setCell ⟨gb794, 0, none⟩ (.string t789)).setCell ⟨gb794, 1, none⟩ (.slice Ao36 t790.length co36)).heap[gb794]? = some (.cells #[.string t789, .slice Ao36 t790.length co36] 39 (0, 0))) := ⟨bp BK794⟩
           have n7 : Aside0 (Below w.heap.size w ((w32.setCell ⟨gb794, 0, none⟩ (.string t789)).setCell ⟨gb794, 1, none⟩ (.slice Ao36 t790.length co36))) := ⟨bq⟩
           (try clear HO774)
           (try clear HO780)
           (try clear HO785)
           (try clear HO792)
           (try clear BK776)
           (try clear BK781)
           (try clear BK794)
           (try clear HB)
           generalize ((w32.setCell ⟨gb794, 0, none⟩ (.string t789)).setCell ⟨gb794, 1, none⟩ (.slice Ao36 t790.length co36)) = w47 at n0 n1 n2 n3 n4 n5 n6 n7 ⊢
           have HO774 := n0
           have HO780 := n1
           have HO785 := n2
           have HO792 := n3
           have BK776 := n4
           have BK781 := n5
           have BK794 := n6
           have HB := n7
           clear n0 n1 n2 n3 n4 n5 n6 n7
           have _ := ra (Kd.R_drew HO774.out)
           have _ := ra (Kd.R_drew HO780.out)
           have _ := ra (Kd.R_drew HO785.out)
           have _ := ra (Kd.R_drew HO792.out)
           have _ := ra (blk_drew BK776.out)
           have _ := ra (blk_drew BK781.out)
           have _ := ra (blk_drew BK794.out)
           have _ := ra (below_drew1 HB.out)
           clear HO774 HO780 HO785 HO792 BK776 BK781 BK794 HB
           rename_i HO774 HO780 HO785 HO792 BK776 BK781 BK794 HB
           refine start_ (n := 31) (S := fun w' => w'.cell? ⟨gb781, 0, none⟩ = some (.string t777) ∧ w'.cell? ⟨gb781, 1, none⟩ = some (.slice Ao23 t778.length co23) ∧ w'.cell? ⟨gb776, 0, none⟩ = some (.string t771) ∧ w'.cell? ⟨gb776, 1, none⟩ = some (.slice Ao18 t772.length co18)) (ds := []) (bl 31 0) (by kernel_rfl) rfl rfl ⟨(blk_cell BK781.out 0).trans rfl, (blk_cell BK781.out 1).trans rfl, (blk_cell BK776.out 0).trans rfl, (blk_cell BK776.out 1).trans rfl⟩ (fun hHeld => ?_); refine with_tabW laws_FnCut.tab10 laws_FnCut.bits10 (fun HT_ HW_ => ?_)
           generalize w47.drew = w48 at HO774 HO780 HO785 HO792 BK776 BK781 BK794 HB hHeld ⊢
           refine pu 0 44 (bl 31 1) ?_
           refine pu 1 45 (bl 31 3) ?_
           refine pu 2 46 (bl 31 7) ?_
           refine tk 3 47 (bl 31 15) ?_ hHeld
           refine tk 4 48 (bl 31 31) ?_ hHeld
           refine oe 5 49 (bl 31 63) (fun K hK => ?_)
           refine gs Try.func26 #[.agg #[.string t777, .slice Ao23 t778.length co23], .agg #[.string t771, .slice Ao18 t772.length co18]] ?_
           with_reducible refine (impl_ProbeSmaller.calls kj2 t777 _ _ t778 t771 _ _ t772 true _ ?side1 ?side2 ?side3 ?side4 A38.out).mono ?_
           (case side1 => exact sr HO780)
           (case side2 => exact (Kd.R_reads' HO780.out).2.1)
           (case side3 => exact sr HO774)
           (case side4 => exact (Kd.R_reads' HO774.out).2.1)
           rintro e w49 ⟨rfl, hb⟩
           refine ⟨_, rfl, ?_⟩
           have _ := ra (Kd.R_below (rq HO774) hb)
           have _ := ra (Kd.R_below (rq HO780) hb)
           have _ := ra (Kd.R_below (rq HO785) hb)
           have _ := ra (Kd.R_below (rq HO792) hb)
           have _ := bb (bk BK776) hb
           have _ := bb (bk BK781) hb
           have _ := bb (bk BK794) hb
           have _ := bs hb
           clear HO774 HO780 HO785 HO792 BK776 BK781 BK794 HB
           rename_i HO774 HO780 HO785 HO792 BK776 BK781 BK794 HB
           (try clear hb)
           (try clear hb2)
           (try clear hk)
           (try clear hi)
           refine hK.out _ _ ⟨(blk_cell BK781.out 0).trans rfl, (blk_cell BK781.out 1).trans rfl, (blk_cell BK776.out 0).trans rfl, (blk_cell BK776.out 1).trans rfl⟩ (fun hHeld => ?_)
           clear hK K
           refine nm 49 ?_
           refine pu 6 50 (bl 31 127) ?_
           refine pu 7 51 (bl 31 255) ?_
           refine pu 8 52 (bl 31 511) ?_
           refine pu 10 54 (bl 31 1535) ?_
           refine tk 9 53 (bl 31 2047) ?_ hHeld
           refine tk 12 56 (bl 31 6143) ?_ hHeld
           refine oe 11 55 (bl 31 8191) (fun K hK => ?_)
           refine gs Try.func36 #[.agg #[.string t777, .slice Ao23 t778.length co23], .int .i64 t775] ?_
           with_reducible refine (impl_ProbeCut.calls kj2 t777 _ _ t778 t775 t796 t797 _ ?side1 ?side2 A40.out).mono ?_
           (case side1 => exact sr HO780)
           (case side2 => exact (Kd.R_reads' HO780.out).2.1)
           rintro e w50 ⟨v798, rfl, ho0, hb⟩
           refine ⟨_, rfl, ?_⟩
           have _ := ra (Kd.R_elder' (rq HO774) (Kd.R_base ho0) hb)
           have _ := ra (Kd.R_elder' (rq HO780) (Kd.R_base ho0) hb)
           have _ := ra (Kd.R_elder' (rq HO785) (Kd.R_base ho0) hb)
           have _ := ra (Kd.R_elder' (rq HO792) (Kd.R_base ho0) hb)
           have _ := ra (Kd.R_lower (Kd.R_new' (Kd.R_new' (Kd.R_new' (Kd.R_new' ho0 (Kd.R_lt (rq HO774))) (Kd.R_lt (rq HO780))) (Kd.R_lt (rq HO785))) (Kd.R_lt (rq HO792))) (below_size bq))
           have _ := bb (bk BK776) hb
           have _ := bb (bk BK781) hb
           have _ := bb (bk BK794) hb
           have _ := bs hb
           clear HO774 HO780 HO785 HO792 BK776 BK781 BK794 HB
           rename_i HO774 HO780 HO785 HO792 HO799 BK776 BK781 BK794 HB
           (try clear hb)
           (try clear hb2)
           (try clear hk)
           (try clear hi)
           (try clear ho0)
           obtain ⟨Ao51, co51, eo51⟩ := Kd.R_slice HO799.out
           (first | subst eo51 | (injection eo51 with f1_ f2_ f3_; have f4_ := f1_.symm; have f5_ := f3_.symm; clear f1_ f2_ f3_; subst f4_; subst f5_))
           refine hK.out _ _ ⟨(blk_cell BK781.out 0).trans rfl, (blk_cell BK781.out 1).trans rfl, (blk_cell BK776.out 0).trans rfl, (blk_cell BK776.out 1).trans rfl⟩ (fun hHeld => ?_)
           clear hK K
           refine nm 55 ?_
           refine oe 13 57 (bl 31 16383) (fun K hK => ?_)
           refine gs Try.func42 #[.agg #[.string t796, .slice Ao51 t797.length co51], .agg #[.string t777, .slice Ao23 t778.length co23]] ?_
           with_reducible refine (laws_wTube.calls kj2 t796 _ _ t797 t777 _ _ t778 true _ ?side1 ?side2 ?side3 ?side4 A41.out).mono ?_
           (case side1 => exact sr HO799)
           (case side2 => exact (Kd.R_reads' HO799.out).2.1)
           (case side3 => exact sr HO780)
           (case side4 => exact (Kd.R_reads' HO780.out).2.1)
           rintro e w52 ⟨rfl, hb⟩
           refine ⟨_, rfl, ?_⟩
           have _ := ra (Kd.R_below (rq HO774) hb)
           have _ := ra (Kd.R_below (rq HO780) hb)
           have _ := ra (Kd.R_below (rq HO785) hb)
           have _ := ra (Kd.R_below (rq HO792) hb)
           have _ := ra (Kd.R_below (rq HO799) hb)
           have _ := bb (bk BK776) hb
           have _ := bb (bk BK781) hb
           have _ := bb (bk BK794) hb
           have _ := bs hb
           clear HO774 HO780 HO785 HO792 HO799 BK776 BK781 BK794 HB
           rename_i HO774 HO780 HO785 HO792 HO799 BK776 BK781 BK794 HB
           (try clear hb)
           (try clear hb2)
           (try clear hk)
           (try clear hi)
           refine hK.out _ _ ⟨(blk_cell BK781.out 0).trans rfl, (blk_cell BK781.out 1).trans rfl, (blk_cell BK776.out 0).trans rfl, (blk_cell BK776.out 1).trans rfl⟩ (fun hHeld => ?_)
           clear hK K
           refine nm 57 ?_
           refine pu 14 58 (bl 31 32767) ?_
           refine pu 15 59 (bl 31 65535) ?_
           refine pu 16 60 (bl 31 131071) ?_
           refine pu 17 61 (bl 31 262143) ?_
           refine pu 18 62 (bl 31 524287) ?_
           refine pu 19 63 (bl 31 1048575) ?_
           refine pu 20 64 (bl 31 2097151) ?_
           refine pu 22 66 (bl 31 6291455) ?_
           refine pu 25 69 (bl 31 39845887) ?_
           refine tk 21 65 (bl 31 41943039) ?_ hHeld
           refine tk 24 68 (bl 31 58720255) ?_ hHeld
           refine oe 23 67 (bl 31 67108863) (fun K hK => ?_)
           refine gs Try.func36 #[.agg #[.string t777, .slice Ao23 t778.length co23], .int .i64 t793] ?_
           with_reducible refine (impl_ProbeCut.calls kj2 t777 _ _ t778 t793 t801 t802 _ ?side1 ?side2 A44.out).mono ?_
           (case side1 => exact sr HO780)
           (case side2 => exact (Kd.R_reads' HO780.out).2.1)
           rintro e w53 ⟨v803, rfl, ho0, hb⟩
           refine ⟨_, rfl, ?_⟩
           have _ := ra (Kd.R_elder' (rq HO774) (Kd.R_base ho0) hb)
           have _ := ra (Kd.R_elder' (rq HO780) (Kd.R_base ho0) hb)
           have _ := ra (Kd.R_elder' (rq HO785) (Kd.R_base ho0) hb)
           have _ := ra (Kd.R_elder' (rq HO792) (Kd.R_base ho0) hb)
           have _ := ra (Kd.R_elder' (rq HO799) (Kd.R_base ho0) hb)
           have _ := ra (Kd.R_lower (Kd.R_new' (Kd.R_new' (Kd.R_new' (Kd.R_new' (Kd.R_new' ho0 (Kd.R_lt (rq HO774))) (Kd.R_lt (rq HO780))) (Kd.R_lt (rq HO785))) (Kd.R_lt (rq HO792))) (Kd.R_lt (rq HO799))) (below_size bq))
           have _ := bb (bk BK776) hb
           have _ := bb (bk BK781) hb
           have _ := bb (bk BK794) hb
           have _ := bs hb
           clear HO774 HO780 HO785 HO792 HO799 BK776 BK781 BK794 HB
           rename_i HO774 HO780 HO785 HO792 HO799 HO804 BK776 BK781 BK794 HB
           (try clear hb)
           (try clear hb2)
           (try clear hk)
           (try clear hi)
           (try clear ho0)
           refine hK.out _ _ ⟨(blk_cell BK781.out 0).trans rfl, (blk_cell BK781.out 1).trans rfl, (blk_cell BK776.out 0).trans rfl, (blk_cell BK776.out 1).trans rfl⟩ (fun hHeld => ?_)
           clear hK K
           refine nm 67 ?_
           refine oe 26 70 (bl 31 134217727) (fun K hK => ?_)
           refine gs Try.func36 #[.agg #[.string t771, .slice Ao18 t772.length co18], .int .i64 t793] ?_
           with_reducible refine (impl_ProbeCut.calls kj2 t771 _ _ t772 t793 t805 t806 _ ?side1 ?side2 A45.out).mono ?_
           (case side1 => exact sr HO774)
           (case side2 => exact (Kd.R_reads' HO774.out).2.1)
           rintro e w54 ⟨v807, rfl, ho0, hb⟩
           refine ⟨_, rfl, ?_⟩
           have _ := ra (Kd.R_elder' (rq HO774) (Kd.R_base ho0) hb)
           have _ := ra (Kd.R_elder' (rq HO780) (Kd.R_base ho0) hb)
           have _ := ra (Kd.R_elder' (rq HO785) (Kd.R_base ho0) hb)
           have _ := ra (Kd.R_elder' (rq HO792) (Kd.R_base ho0) hb)
           have _ := ra (Kd.R_elder' (rq HO799) (Kd.R_base ho0) hb)
           have _ := ra (Kd.R_elder' (rq HO804) (Kd.R_base ho0) hb)
           have _ := ra (Kd.R_lower (Kd.R_new' (Kd.R_new' (Kd.R_new' (Kd.R_new' (Kd.R_new' (Kd.R_new' ho0 (Kd.R_lt (rq HO774))) (Kd.R_lt (rq HO780))) (Kd.R_lt (rq HO785))) (Kd.R_lt (rq HO792))) (Kd.R_lt (rq HO799))) (Kd.R_lt (rq HO804))) (below_size bq))
           have _ := bb (bk BK776) hb
           have _ := bb (bk BK781) hb
           have _ := bb (bk BK794) hb
           have _ := bs hb
           clear HO774 HO780 HO785 HO792 HO799 HO804 BK776 BK781 BK794 HB
           rename_i HO774 HO780 HO785 HO792 HO799 HO804 HO808 BK776 BK781 BK794 HB
           (try clear hb)
           (try clear hb2)
           (try clear hk)
           (try clear hi)
           (try clear ho0)
           obtain ⟨Ao55, co55, eo55⟩ := Kd.R_slice HO804.out
           (first | subst eo55 | (injection eo55 with f1_ f2_ f3_; have f4_ := f1_.symm; have f5_ := f3_.symm; clear f1_ f2_ f3_; subst f4_; subst f5_))
           obtain ⟨Ao56, co56, eo56⟩ := Kd.R_slice HO808.out
           (first | subst eo56 | (injection eo56 with f1_ f2_ f3_; have f4_ := f1_.symm; have f5_ := f3_.symm; clear f1_ f2_ f3_; subst f4_; subst f5_))
           refine hK.out _ _ ⟨(blk_cell BK781.out 0).trans rfl, (blk_cell BK781.out 1).trans rfl, (blk_cell BK776.out 0).trans rfl, (blk_cell BK776.out 1).trans rfl⟩ (fun hHeld => ?_)
           clear hK K
           refine nm 70 ?_
           refine oe 27 71 (bl 31 268435455) (fun K hK => ?_)
           refine gs Try.func42 #[.agg #[.string t801, .slice Ao55 t802.length co55], .agg #[.string t805, .slice Ao56 t806.length co56]] ?_
           with_reducible refine (laws_wTube.calls kj2 t801 _ _ t802 t805 _ _ t806 t809 _ ?side1 ?side2 ?side3 ?side4 A46.out).mono ?_
           (case side1 => exact sr HO804)
           (case side2 => exact (Kd.R_reads' HO804.out).2.1)
           (case side3 => exact sr HO808)
           (case side4 => exact (Kd.R_reads' HO808.out).2.1)
           rintro e w57 ⟨rfl, hb⟩
           refine ⟨_, rfl, ?_⟩
           have _ := ra (Kd.R_below (rq HO774) hb)
           have _ := ra (Kd.R_below (rq HO780) hb)
           have _ := ra (Kd.R_below (rq HO785) hb)
           have _ := ra (Kd.R_below (rq HO792) hb)
           have _ := ra (Kd.R_below (rq HO799) hb)
           have _ := ra (Kd.R_below (rq HO804) hb)
           have _ := ra (Kd.R_below (rq HO808) hb)
           have _ := bb (bk BK776) hb
           have _ := bb (bk BK781) hb
           have _ := bb (bk BK794) hb
           have _ := bs hb
           clear HO774 HO780 HO785 HO792 HO799 HO804 HO808 BK776 BK781 BK794 HB
           rename_i HO774 HO780 HO785 HO792 HO799 HO804 HO808 BK776 BK781 BK794 HB
           (try clear hb)
           (try clear hb2)
           (try clear hk)
           (try clear hi)
           refine hK.out _ _ ⟨(blk_cell BK781.out 0).trans rfl, (blk_cell BK781.out 1).trans rfl, (blk_cell BK776.out 0).trans rfl, (blk_cell BK776.out 1).trans rfl⟩ (fun hHeld => ?_)
           clear hK K
           refine nm 71 ?_
           refine pu 28 72 (bl 31 536870911) ?_
           refine pu 29 73 (bl 31 1073741823) ?_
           refine pu 30 74 (bl 31 2147483647) ?_
           refine done_ (done_of HT_.out (by kernel_rfl)) ?_
           try go_wp2
           go_meet
           case rel => exact ⟨_, (!t809), rs, H', ⟨by have := HJ2.out; first | omega | exact Nat.le_refl _⟩, ⟨by (with_reducible repeat (first | apply Kd.R_alloc | apply Kd.R_drewN | apply Kd.R_drew)); exact Kd.R_mono HO774.out (fun _ hk => ⟨hk.1.1.1.1, hk.1.1.1.2.2⟩)⟩, ⟨by (with_reducible repeat (first | apply Kd.R_alloc | apply Kd.R_drewN | apply Kd.R_drew)); exact Kd.R_mono HO780.out (fun _ hk => ⟨hk.1.1.1.1, hk.1.1.1.2.2⟩)⟩, ⟨by (with_reducible repeat (first | apply Kd.R_alloc | apply Kd.R_drewN | apply Kd.R_drew)); exact Kd.R_mono HO792.out (fun _ hk => ⟨hk.1.1.1.1, hk.1.1.1.2.1⟩)⟩, ⟨bk BK776⟩, ⟨bk BK781⟩, ⟨bk BK794⟩, ⟨bq⟩⟩
          ·rw [if_neg c43] at H
           have c43b0 : decide (t775 ≤ t793) = false := decide_eq_false c43
           clear c43
           have H' := Aside0.mk H
           clear H
           try go_wp2
           have n0 : Aside0 (Kd.R k26 26 ((w32.setCell ⟨gb794, 0, none⟩ (.string t789)).setCell ⟨gb794, 1, none⟩ (.slice Ao36 t790.length co36)) w.heap.size (fun k_ => some k_ ≠ (.slice Ao23 t778.length co23 : Value).ownBlock ∧ some k_ ≠ (.slice Ao27 t783.length co27 : Value).ownBlock ∧ some k_ ≠ (.slice Ao36 t790.length co36 : Value).ownBlock) (.slice Ao18 t772.length co18) t772) := ⟨by (with_reducible repeat (first | apply Kd.R_alloc | apply Kd.R_drewN | apply Kd.R_drew)); exact Kd.R_mono (rf (Kd.R_types HO774.out BK794.out (by decide))) (fun _ hk => ⟨hk.1.1.1, ⟨hk.1.1.2, hk.1.2⟩⟩)⟩
           have n1 : Aside0 (Kd.R k26 26 ((w32.setCell ⟨gb794, 0, none⟩ (.string t789)).setCell ⟨gb794, 1, none⟩ (.slice Ao36 t790.length co36)) w.heap.size (fun k_ => some k_ ≠ (.slice Ao18 t772.length co18 : Value).ownBlock ∧ some k_ ≠ (.slice Ao27 t783.length co27 : Value).ownBlock ∧ some k_ ≠ (.slice Ao36 t790.length co36 : Value).ownBlock) (.slice Ao23 t778.length co23) t778) := ⟨by (with_reducible repeat (first | apply Kd.R_alloc | apply Kd.R_drewN | apply Kd.R_drew)); exact Kd.R_mono (rf (Kd.R_types HO780.out BK794.out (by decide))) (fun _ hk => ⟨hk.1.1.1, ⟨hk.1.1.2, hk.1.2⟩⟩)⟩
           have n2 : Aside0 (Kd.R k26 26 ((w32.setCell ⟨gb794, 0, none⟩ (.string t789)).setCell ⟨gb794, 1, none⟩ (.slice Ao36 t790.length co36)) w.heap.size (fun k_ => some k_ ≠ (.slice Ao18 t772.length co18 : Value).ownBlock ∧ some k_ ≠ (.slice Ao23 t778.length co23 : Value).ownBlock ∧ some k_ ≠ (.slice Ao36 t790.length co36 : Value).ownBlock) (.slice Ao27 t783.length co27) t783) := ⟨by (with_reducible repeat (first | apply Kd.R_alloc | apply Kd.R_drewN | apply Kd.R_drew)); exact Kd.R_mono (rf (Kd.R_types HO785.out BK794.out (by decide))) (fun _ hk => ⟨hk.1.1.1.2, ⟨hk.1.1.2, hk.1.2⟩⟩)⟩
           have n3 : Aside0 (Kd.R k26 26 ((w32.setCell ⟨gb794, 0, none⟩ (.string t789)).setCell ⟨gb794, 1, none⟩ (.slice Ao36 t790.length co36)) w.heap.size (fun k_ => some k_ ≠ (.slice Ao18 t772.length co18 : Value).ownBlock ∧ some k_ ≠ (.slice Ao23 t778.length co23 : Value).ownBlock ∧ some k_ ≠ (.slice Ao27 t783.length co27 : Value).ownBlock) (.slice Ao36 t790.length co36) t790) := ⟨by (with_reducible repeat (first | apply Kd.R_alloc | apply Kd.R_drewN | apply Kd.R_drew)); exact Kd.R_mono (rf (Kd.R_types HO792.out BK794.out (by decide))) (fun _ hk => ⟨hk.1.1.1.2, ⟨hk.1.1.2, hk.1.2⟩⟩)⟩
           have n4 : Aside0 (((w32.setCell ⟨gb794, 0, none⟩ (.string t789)).setCell ⟨gb794, 1, none⟩ (.slice Ao36 t790.length co36)).heap[gb776]? = some (.cells #[.string t771, .slice Ao18 t772.length co18] 39 (0, 0))) := ⟨bk BK776⟩
           have n5 : Aside0 (((w32.setCell ⟨gb794, 0, none⟩ (.string t789)).setCell ⟨gb794, 1, none⟩ (.slice Ao36 t790.length co36)).heap[gb781]? = some (.cells #[.string t777, .slice Ao23 t778.length co23] 39 (0, 0))) := ⟨bk BK781⟩
           have n6 : Aside0 (((w32.setCell ⟨gb794, 0, none⟩ (.string t789)).setCell ⟨gb794, 1, none⟩ (.slice Ao36 t790.length co36)).heap[gb794]? = some (.cells #[.string t789, .slice Ao36 t790.length co36] 39 (0, 0))) := ⟨bp BK794⟩
           have n7 : Aside0 (Below w.heap.size w ((w32.setCell ⟨gb794, 0, none⟩ (.string t789)).setCell ⟨gb794, 1, none⟩ (.slice Ao36 t790.length co36))) := ⟨bq⟩
           (try clear HO774)
           (try clear HO780)
           (try clear HO785)
           (try clear HO792)
           (try clear BK776)
           (try clear BK781)
           (try clear BK794)
           (try clear HB)
           generalize ((w32.setCell ⟨gb794, 0, none⟩ (.string t789)).setCell ⟨gb794, 1, none⟩ (.slice Ao36 t790.length co36)) = w58 at n0 n1 n2 n3 n4 n5 n6 n7 ⊢
           have HO774 := n0
           have HO780 := n1
           have HO785 := n2
           have HO792 := n3
           have BK776 := n4
           have BK781 := n5
           have BK794 := n6
           have HB := n7
           clear n0 n1 n2 n3 n4 n5 n6 n7
           have _ := ra (Kd.R_drew HO774.out)
           have _ := ra (Kd.R_drew HO780.out)
           have _ := ra (Kd.R_drew HO785.out)
           have _ := ra (Kd.R_drew HO792.out)
           have _ := ra (blk_drew BK776.out)
           have _ := ra (blk_drew BK781.out)
           have _ := ra (blk_drew BK794.out)
           have _ := ra (below_drew1 HB.out)
           clear HO774 HO780 HO785 HO792 BK776 BK781 BK794 HB
           rename_i HO774 HO780 HO785 HO792 BK776 BK781 BK794 HB
           refine start_ (n := 31) (S := fun w' => w'.cell? ⟨gb781, 0, none⟩ = some (.string t777) ∧ w'.cell? ⟨gb781, 1, none⟩ = some (.slice Ao23 t778.length co23) ∧ w'.cell? ⟨gb776, 0, none⟩ = some (.string t771) ∧ w'.cell? ⟨gb776, 1, none⟩ = some (.slice Ao18 t772.length co18)) (ds := []) (bl 31 0) (by kernel_rfl) rfl rfl ⟨(blk_cell BK781.out 0).trans rfl, (blk_cell BK781.out 1).trans rfl, (blk_cell BK776.out 0).trans rfl, (blk_cell BK776.out 1).trans rfl⟩ (fun hHeld => ?_); refine with_tabW laws_FnCut.tab10 laws_FnCut.bits10 (fun HT_ HW_ => ?_)
           generalize w58.drew = w59 at HO774 HO780 HO785 HO792 BK776 BK781 BK794 HB hHeld ⊢
           refine pu 0 44 (bl 31 1) ?_
           refine pu 1 45 (bl 31 3) ?_
           refine pu 2 46 (bl 31 7) ?_
           refine tk 3 47 (bl 31 15) ?_ hHeld
           refine tk 4 48 (bl 31 31) ?_ hHeld
           refine oe 5 49 (bl 31 63) (fun K hK => ?_)
           refine gs Try.func26 #[.agg #[.string t777, .slice Ao23 t778.length co23], .agg #[.string t771, .slice Ao18 t772.length co18]] ?_
           with_reducible refine (impl_ProbeSmaller.calls kj2 t777 _ _ t778 t771 _ _ t772 true _ ?side1 ?side2 ?side3 ?side4 A38.out).mono ?_
           (case side1 => exact sr HO780)
           (case side2 => exact (Kd.R_reads' HO780.out).2.1)
           (case side3 => exact sr HO774)
           (case side4 => exact (Kd.R_reads' HO774.out).2.1)
           rintro e w60 ⟨rfl, hb⟩
           refine ⟨_, rfl, ?_⟩
           have _ := ra (Kd.R_below (rq HO774) hb)
           have _ := ra (Kd.R_below (rq HO780) hb)
           have _ := ra (Kd.R_below (rq HO785) hb)
           have _ := ra (Kd.R_below (rq HO792) hb)
           have _ := bb (bk BK776) hb
           have _ := bb (bk BK781) hb
           have _ := bb (bk BK794) hb
           have _ := bs hb
           clear HO774 HO780 HO785 HO792 BK776 BK781 BK794 HB
           rename_i HO774 HO780 HO785 HO792 BK776 BK781 BK794 HB
           (try clear hb)
           (try clear hb2)
           (try clear hk)
           (try clear hi)
           refine hK.out _ _ ⟨(blk_cell BK781.out 0).trans rfl, (blk_cell BK781.out 1).trans rfl, (blk_cell BK776.out 0).trans rfl, (blk_cell BK776.out 1).trans rfl⟩ (fun hHeld => ?_)
           clear hK K
           refine nm 49 ?_
           refine pu 6 50 (bl 31 127) ?_
           refine pu 7 51 (bl 31 255) ?_
           refine pu 8 52 (bl 31 511) ?_
           refine pu 10 54 (bl 31 1535) ?_
           refine tk 9 53 (bl 31 2047) ?_ hHeld
           refine tk 12 56 (bl 31 6143) ?_ hHeld
           refine oe 11 55 (bl 31 8191) (fun K hK => ?_)
           refine gs Try.func36 #[.agg #[.string t777, .slice Ao23 t778.length co23], .int .i64 t775] ?_
           with_reducible refine (impl_ProbeCut.calls kj2 t777 _ _ t778 t775 t796 t797 _ ?side1 ?side2 A40.out).mono ?_
           (case side1 => exact sr HO780)
           (case side2 => exact (Kd.R_reads' HO780.out).2.1)
           rintro e w61 ⟨v798, rfl, ho0, hb⟩
           refine ⟨_, rfl, ?_⟩
           have _ := ra (Kd.R_elder' (rq HO774) (Kd.R_base ho0) hb)
           have _ := ra (Kd.R_elder' (rq HO780) (Kd.R_base ho0) hb)
           have _ := ra (Kd.R_elder' (rq HO785) (Kd.R_base ho0) hb)
           have _ := ra (Kd.R_elder' (rq HO792) (Kd.R_base ho0) hb)
           have _ := ra (Kd.R_lower (Kd.R_new' (Kd.R_new' (Kd.R_new' (Kd.R_new' ho0 (Kd.R_lt (rq HO774))) (Kd.R_lt (rq HO780))) (Kd.R_lt (rq HO785))) (Kd.R_lt (rq HO792))) (below_size bq))
           have _ := bb (bk BK776) hb
           have _ := bb (bk BK781) hb
           have _ := bb (bk BK794) hb
           have _ := bs hb
           clear HO774 HO780 HO785 HO792 BK776 BK781 BK794 HB
           rename_i HO774 HO780 HO785 HO792 HO799 BK776 BK781 BK794 HB
           (try clear hb)
           (try clear hb2)
           (try clear hk)
           (try clear hi)
           (try clear ho0)
           obtain ⟨Ao62, co62, eo62⟩ := Kd.R_slice HO799.out
           (first | subst eo62 | (injection eo62 with f1_ f2_ f3_; have f4_ := f1_.symm; have f5_ := f3_.symm; clear f1_ f2_ f3_; subst f4_; subst f5_))
           refine hK.out _ _ ⟨(blk_cell BK781.out 0).trans rfl, (blk_cell BK781.out 1).trans rfl, (blk_cell BK776.out 0).trans rfl, (blk_cell BK776.out 1).trans rfl⟩ (fun hHeld => ?_)
           clear hK K
           refine nm 55 ?_
           refine oe 13 57 (bl 31 16383) (fun K hK => ?_)
           refine gs Try.func42 #[.agg #[.string t796, .slice Ao62 t797.length co62], .agg #[.string t777, .slice Ao23 t778.length co23]] ?_
           with_reducible refine (laws_wTube.calls kj2 t796 _ _ t797 t777 _ _ t778 true _ ?side1 ?side2 ?side3 ?side4 A41.out).mono ?_
           (case side1 => exact sr HO799)
           (case side2 => exact (Kd.R_reads' HO799.out).2.1)
           (case side3 => exact sr HO780)
           (case side4 => exact (Kd.R_reads' HO780.out).2.1)
           rintro e w63 ⟨rfl, hb⟩
           refine ⟨_, rfl, ?_⟩
           have _ := ra (Kd.R_below (rq HO774) hb)
           have _ := ra (Kd.R_below (rq HO780) hb)
           have _ := ra (Kd.R_below (rq HO785) hb)
           have _ := ra (Kd.R_below (rq HO792) hb)
           have _ := ra (Kd.R_below (rq HO799) hb)
           have _ := bb (bk BK776) hb
           have _ := bb (bk BK781) hb
           have _ := bb (bk BK794) hb
           have _ := bs hb
           clear HO774 HO780 HO785 HO792 HO799 BK776 BK781 BK794 HB
           rename_i HO774 HO780 HO785 HO792 HO799 BK776 BK781 BK794 HB
           (try clear hb)
           (try clear hb2)
           (try clear hk)
           (try clear hi)
           refine hK.out _ _ ⟨(blk_cell BK781.out 0).trans rfl, (blk_cell BK781.out 1).trans rfl, (blk_cell BK776.out 0).trans rfl, (blk_cell BK776.out 1).trans rfl⟩ (fun hHeld => ?_)
           clear hK K
           refine nm 57 ?_
           refine pu 14 58 (bl 31 32767) ?_
           refine pu 15 59 (bl 31 65535) ?_
           refine pu 16 60 (bl 31 131071) ?_
           refine pu 17 61 (bl 31 262143) ?_
           refine pu 18 62 (bl 31 524287) ?_
           refine pu 19 63 (bl 31 1048575) ?_
           refine pu 20 64 (bl 31 2097151) ?_
           refine pv 21 65 (bl 31 4194303) ?_
           refine pv 22 66 (bl 31 8388607) ?_
           refine pv 23 67 (bl 31 16777215) ?_
           refine pv 24 68 (bl 31 33554431) ?_
           refine pv 25 69 (bl 31 67108863) ?_
           refine pv 26 70 (bl 31 134217727) ?_
           refine pv 27 71 (bl 31 268435455) ?_
           refine pv 28 72 (bl 31 536870911) ?_
           refine pu 29 73 (bl 31 1073741823) ?_
           refine pu 30 74 (bl 31 2147483647) ?_
           refine done_ (done_of HT_.out (by kernel_rfl)) ?_
           try go_wp2
           go_meet
           case rel => exact ⟨_, (false), rs, H', ⟨by have := HJ2.out; first | omega | exact Nat.le_refl _⟩, ⟨by (with_reducible repeat (first | apply Kd.R_alloc | apply Kd.R_drewN | apply Kd.R_drew)); exact Kd.R_mono HO774.out (fun _ hk => ⟨hk.1.1, hk.1.2.2⟩)⟩, ⟨by (with_reducible repeat (first | apply Kd.R_alloc | apply Kd.R_drewN | apply Kd.R_drew)); exact Kd.R_mono HO780.out (fun _ hk => ⟨hk.1.1, hk.1.2.2⟩)⟩, ⟨by (with_reducible repeat (first | apply Kd.R_alloc | apply Kd.R_drewN | apply Kd.R_drew)); exact Kd.R_mono HO792.out (fun _ hk => ⟨hk.1.1, hk.1.2.1⟩)⟩, ⟨bk BK776⟩, ⟨bk BK781⟩, ⟨bk BK794⟩, ⟨bq⟩⟩
         ·replace c42 := Bool.eq_false_iff.mpr c42
          subst c42
          have H1 : (laws_FnCut.j1 kj2 t775 true t771 t772 t777 t778 t789 t790) = some true := by rw [if_neg (show ¬ (false = true) by decide)] at H; exact H
          clear H
          have H := H1
          clear H1
          have H' := Aside0.mk H
          clear H
          try go_wp2
          have n0 : Aside0 (Kd.R k26 26 ((w32.setCell ⟨gb794, 0, none⟩ (.string t789)).setCell ⟨gb794, 1, none⟩ (.slice Ao36 t790.length co36)) w.heap.size (fun k_ => some k_ ≠ (.slice Ao23 t778.length co23 : Value).ownBlock ∧ some k_ ≠ (.slice Ao27 t783.length co27 : Value).ownBlock ∧ some k_ ≠ (.slice Ao36 t790.length co36 : Value).ownBlock) (.slice Ao18 t772.length co18) t772) := ⟨by (with_reducible repeat (first | apply Kd.R_alloc | apply Kd.R_drewN | apply Kd.R_drew)); exact Kd.R_mono (rf (Kd.R_types HO774.out BK794.out (by decide))) (fun _ hk => ⟨hk.1.1.1, ⟨hk.1.1.2, hk.1.2⟩⟩)⟩
          have n1 : Aside0 (Kd.R k26 26 ((w32.setCell ⟨gb794, 0, none⟩ (.string t789)).setCell ⟨gb794, 1, none⟩ (.slice Ao36 t790.length co36)) w.heap.size (fun k_ => some k_ ≠ (.slice Ao18 t772.length co18 : Value).ownBlock ∧ some k_ ≠ (.slice Ao27 t783.length co27 : Value).ownBlock ∧ some k_ ≠ (.slice Ao36 t790.length co36 : Value).ownBlock) (.slice Ao23 t778.length co23) t778) := ⟨by (with_reducible repeat (first | apply Kd.R_alloc | apply Kd.R_drewN | apply Kd.R_drew)); exact Kd.R_mono (rf (Kd.R_types HO780.out BK794.out (by decide))) (fun _ hk => ⟨hk.1.1.1, ⟨hk.1.1.2, hk.1.2⟩⟩)⟩
          have n2 : Aside0 (Kd.R k26 26 ((w32.setCell ⟨gb794, 0, none⟩ (.string t789)).setCell ⟨gb794, 1, none⟩ (.slice Ao36 t790.length co36)) w.heap.size (fun k_ => some k_ ≠ (.slice Ao18 t772.length co18 : Value).ownBlock ∧ some k_ ≠ (.slice Ao23 t778.length co23 : Value).ownBlock ∧ some k_ ≠ (.slice Ao36 t790.length co36 : Value).ownBlock) (.slice Ao27 t783.length co27) t783) := ⟨by (with_reducible repeat (first | apply Kd.R_alloc | apply Kd.R_drewN | apply Kd.R_drew)); exact Kd.R_mono (rf (Kd.R_types HO785.out BK794.out (by decide))) (fun _ hk => ⟨hk.1.1.1.2, ⟨hk.1.1.2, hk.1.2⟩⟩)⟩
          have n3 : Aside0 (Kd.R k26 26 ((w32.setCell ⟨gb794, 0, none⟩ (.string t789)).setCell ⟨gb794, 1, none⟩ (.slice Ao36 t790.length co36)) w.heap.size (fun k_ => some k_ ≠ (.slice Ao18 t772.length co18 : Value).ownBlock ∧ some k_ ≠ (.slice Ao23 t778.length co23 : Value).ownBlock ∧ some k_ ≠ (.slice Ao27 t783.length co27 : Value).ownBlock) (.slice Ao36 t790.length co36) t790) := ⟨by (with_reducible repeat (first | apply Kd.R_alloc | apply Kd.R_drewN | apply Kd.R_drew)); exact Kd.R_mono (rf (Kd.R_types HO792.out BK794.out (by decide))) (fun _ hk => ⟨hk.1.1.1.2, ⟨hk.1.1.2, hk.1.2⟩⟩)⟩
          have n4 : Aside0 (((w32.setCell ⟨gb794, 0, none⟩ (.string t789)).setCell ⟨gb794, 1, none⟩ (.slice Ao36 t790.length co36)).heap[gb776]? = some (.cells #[.string t771, .slice Ao18 t772.length co18] 39 (0, 0))) := ⟨bk BK776⟩
          have n5 : Aside0 (((w32.setCell ⟨gb794, 0, none⟩ (.string t789)).setCell ⟨gb794, 1, none⟩ (.slice Ao36 t790.length co36)).heap[gb781]? = some (.cells #[.string t777, .slice Ao23 t778.length co23] 39 (0, 0))) := ⟨bk BK781⟩
          have n6 : Aside0 (((w32.setCell ⟨gb794, 0, none⟩ (.string t789)).setCell ⟨gb794, 1, none⟩ (.slice Ao36 t790.length co36)).heap[gb794]? = some (.cells #[.string t789, .slice Ao36 t790.length co36] 39 (0, 0))) := ⟨bp BK794⟩
          have n7 : Aside0 (Below w.heap.size w ((w32.setCell ⟨gb794, 0, none⟩ (.string t789)).setCell ⟨gb794, 1, none⟩ (.slice Ao36 t790.length co36))) := ⟨bq⟩
          (try clear HO774)
          (try clear HO780)
          (try clear HO785)
          (try clear HO792)
          (try clear BK776)
          (try clear BK781)
          (try clear BK794)
          (try clear HB)
          generalize ((w32.setCell ⟨gb794, 0, none⟩ (.string t789)).setCell ⟨gb794, 1, none⟩ (.slice Ao36 t790.length co36)) = w64 at n0 n1 n2 n3 n4 n5 n6 n7 ⊢
          have HO774 := n0
          have HO780 := n1
          have HO785 := n2
          have HO792 := n3
          have BK776 := n4
          have BK781 := n5
          have BK794 := n6
          have HB := n7
          clear n0 n1 n2 n3 n4 n5 n6 n7
          have _ := ra (Kd.R_drew HO774.out)
          have _ := ra (Kd.R_drew HO780.out)
          have _ := ra (Kd.R_drew HO785.out)
          have _ := ra (Kd.R_drew HO792.out)
          have _ := ra (blk_drew BK776.out)
          have _ := ra (blk_drew BK781.out)
          have _ := ra (blk_drew BK794.out)
          have _ := ra (below_drew1 HB.out)
          clear HO774 HO780 HO785 HO792 BK776 BK781 BK794 HB
          rename_i HO774 HO780 HO785 HO792 BK776 BK781 BK794 HB
          refine start_ (n := 31) (S := fun w' => w'.cell? ⟨gb781, 0, none⟩ = some (.string t777) ∧ w'.cell? ⟨gb781, 1, none⟩ = some (.slice Ao23 t778.length co23) ∧ w'.cell? ⟨gb776, 0, none⟩ = some (.string t771) ∧ w'.cell? ⟨gb776, 1, none⟩ = some (.slice Ao18 t772.length co18)) (ds := []) (bl 31 0) (by kernel_rfl) rfl rfl ⟨(blk_cell BK781.out 0).trans rfl, (blk_cell BK781.out 1).trans rfl, (blk_cell BK776.out 0).trans rfl, (blk_cell BK776.out 1).trans rfl⟩ (fun hHeld => ?_); refine with_tabW laws_FnCut.tab10 laws_FnCut.bits10 (fun HT_ HW_ => ?_)
          generalize w64.drew = w65 at HO774 HO780 HO785 HO792 BK776 BK781 BK794 HB hHeld ⊢
          refine pu 0 44 (bl 31 1) ?_
          refine pu 1 45 (bl 31 3) ?_
          refine pu 2 46 (bl 31 7) ?_
          refine tk 3 47 (bl 31 15) ?_ hHeld
          refine tk 4 48 (bl 31 31) ?_ hHeld
          refine oe 5 49 (bl 31 63) (fun K hK => ?_)
          refine gs Try.func26 #[.agg #[.string t777, .slice Ao23 t778.length co23], .agg #[.string t771, .slice Ao18 t772.length co18]] ?_
          with_reducible refine (impl_ProbeSmaller.calls kj2 t777 _ _ t778 t771 _ _ t772 true _ ?side1 ?side2 ?side3 ?side4 A38.out).mono ?_
          (case side1 => exact sr HO780)
          (case side2 => exact (Kd.R_reads' HO780.out).2.1)
          (case side3 => exact sr HO774)
          (case side4 => exact (Kd.R_reads' HO774.out).2.1)
          rintro e w66 ⟨rfl, hb⟩
          refine ⟨_, rfl, ?_⟩
          have _ := ra (Kd.R_below (rq HO774) hb)
          have _ := ra (Kd.R_below (rq HO780) hb)
          have _ := ra (Kd.R_below (rq HO785) hb)
          have _ := ra (Kd.R_below (rq HO792) hb)
          have _ := bb (bk BK776) hb
          have _ := bb (bk BK781) hb
          have _ := bb (bk BK794) hb
          have _ := bs hb
          clear HO774 HO780 HO785 HO792 BK776 BK781 BK794 HB
          rename_i HO774 HO780 HO785 HO792 BK776 BK781 BK794 HB
          (try clear hb)
          (try clear hb2)
          (try clear hk)
          (try clear hi)
          refine hK.out _ _ ⟨(blk_cell BK781.out 0).trans rfl, (blk_cell BK781.out 1).trans rfl, (blk_cell BK776.out 0).trans rfl, (blk_cell BK776.out 1).trans rfl⟩ (fun hHeld => ?_)
          clear hK K
          refine nm 49 ?_
          refine pu 6 50 (bl 31 127) ?_
          refine pu 7 51 (bl 31 255) ?_
          refine pu 8 52 (bl 31 511) ?_
          refine pu 10 54 (bl 31 1535) ?_
          refine tk 9 53 (bl 31 2047) ?_ hHeld
          refine tk 12 56 (bl 31 6143) ?_ hHeld
          refine oe 11 55 (bl 31 8191) (fun K hK => ?_)
          refine gs Try.func36 #[.agg #[.string t777, .slice Ao23 t778.length co23], .int .i64 t775] ?_
          with_reducible refine (impl_ProbeCut.calls kj2 t777 _ _ t778 t775 t796 t797 _ ?side1 ?side2 A40.out).mono ?_
          (case side1 => exact sr HO780)
          (case side2 => exact (Kd.R_reads' HO780.out).2.1)
          rintro e w67 ⟨v798, rfl, ho0, hb⟩
          refine ⟨_, rfl, ?_⟩
          have _ := ra (Kd.R_elder' (rq HO774) (Kd.R_base ho0) hb)
          have _ := ra (Kd.R_elder' (rq HO780) (Kd.R_base ho0) hb)
          have _ := ra (Kd.R_elder' (rq HO785) (Kd.R_base ho0) hb)
          have _ := ra (Kd.R_elder' (rq HO792) (Kd.R_base ho0) hb)
          have _ := ra (Kd.R_lower (Kd.R_new' (Kd.R_new' (Kd.R_new' (Kd.R_new' ho0 (Kd.R_lt (rq HO774))) (Kd.R_lt (rq HO780))) (Kd.R_lt (rq HO785))) (Kd.R_lt (rq HO792))) (below_size bq))
          have _ := bb (bk BK776) hb
          have _ := bb (bk BK781) hb
          have _ := bb (bk BK794) hb
          have _ := bs hb
          clear HO774 HO780 HO785 HO792 BK776 BK781 BK794 HB
          rename_i HO774 HO780 HO785 HO792 HO799 BK776 BK781 BK794 HB
          (try clear hb)
          (try clear hb2)
          (try clear hk)
          (try clear hi)
          (try clear ho0)
          obtain ⟨Ao68, co68, eo68⟩ := Kd.R_slice HO799.out
          (first | subst eo68 | (injection eo68 with f1_ f2_ f3_; have f4_ := f1_.symm; have f5_ := f3_.symm; clear f1_ f2_ f3_; subst f4_; subst f5_))
          refine hK.out _ _ ⟨(blk_cell BK781.out 0).trans rfl, (blk_cell BK781.out 1).trans rfl, (blk_cell BK776.out 0).trans rfl, (blk_cell BK776.out 1).trans rfl⟩ (fun hHeld => ?_)
          clear hK K
          refine nm 55 ?_
          refine oe 13 57 (bl 31 16383) (fun K hK => ?_)
          refine gs Try.func42 #[.agg #[.string t796, .slice Ao68 t797.length co68], .agg #[.string t777, .slice Ao23 t778.length co23]] ?_
          with_reducible refine (laws_wTube.calls kj2 t796 _ _ t797 t777 _ _ t778 false _ ?side1 ?side2 ?side3 ?side4 A41.out).mono ?_
          (case side1 => exact sr HO799)
          (case side2 => exact (Kd.R_reads' HO799.out).2.1)
          (case side3 => exact sr HO780)
          (case side4 => exact (Kd.R_reads' HO780.out).2.1)
          rintro e w69 ⟨rfl, hb⟩
          refine ⟨_, rfl, ?_⟩
          have _ := ra (Kd.R_below (rq HO774) hb)
          have _ := ra (Kd.R_below (rq HO780) hb)
          have _ := ra (Kd.R_below (rq HO785) hb)
          have _ := ra (Kd.R_below (rq HO792) hb)
          have _ := ra (Kd.R_below (rq HO799) hb)
          have _ := bb (bk BK776) hb
          have _ := bb (bk BK781) hb
          have _ := bb (bk BK794) hb
          have _ := bs hb
          clear HO774 HO780 HO785 HO792 HO799 BK776 BK781 BK794 HB
          rename_i HO774 HO780 HO785 HO792 HO799 BK776 BK781 BK794 HB
          (try clear hb)
          (try clear hb2)
          (try clear hk)
          (try clear hi)
          refine hK.out _ _ ⟨(blk_cell BK781.out 0).trans rfl, (blk_cell BK781.out 1).trans rfl, (blk_cell BK776.out 0).trans rfl, (blk_cell BK776.out 1).trans rfl⟩ (fun hHeld => ?_)
          clear hK K
          refine nm 57 ?_
          refine pu 14 58 (bl 31 32767) ?_
          refine pu 15 59 (bl 31 65535) ?_
          refine pu 16 60 (bl 31 131071) ?_
          refine pv 17 61 (bl 31 262143) ?_
          refine pv 18 62 (bl 31 524287) ?_
          refine pv 19 63 (bl 31 1048575) ?_
          refine pv 20 64 (bl 31 2097151) ?_
          refine pv 21 65 (bl 31 4194303) ?_
          refine pv 22 66 (bl 31 8388607) ?_
          refine pv 23 67 (bl 31 16777215) ?_
          refine pv 24 68 (bl 31 33554431) ?_
          refine pv 25 69 (bl 31 67108863) ?_
          refine pv 26 70 (bl 31 134217727) ?_
          refine pv 27 71 (bl 31 268435455) ?_
          refine pv 28 72 (bl 31 536870911) ?_
          refine pv 29 73 (bl 31 1073741823) ?_
          refine pu 30 74 (bl 31 2147483647) ?_
          refine done_ (done_of HT_.out (by kernel_rfl)) ?_
          try go_wp2
          go_meet
          case rel => exact ⟨_, (true), rs, H', ⟨by have := HJ2.out; first | omega | exact Nat.le_refl _⟩, ⟨by (with_reducible repeat (first | apply Kd.R_alloc | apply Kd.R_drewN | apply Kd.R_drew)); exact Kd.R_mono HO774.out (fun _ hk => ⟨hk.1.1, hk.1.2.2⟩)⟩, ⟨by (with_reducible repeat (first | apply Kd.R_alloc | apply Kd.R_drewN | apply Kd.R_drew)); exact Kd.R_mono HO780.out (fun _ hk => ⟨hk.1.1, hk.1.2.2⟩)⟩, ⟨by (with_reducible repeat (first | apply Kd.R_alloc | apply Kd.R_drewN | apply Kd.R_drew)); exact Kd.R_mono HO792.out (fun _ hk => ⟨hk.1.1, hk.1.2.1⟩)⟩, ⟨bk BK776⟩, ⟨bk BK781⟩, ⟨bk BK794⟩, ⟨bq⟩⟩
        ·replace c39 := Bool.eq_false_iff.mpr c39
         subst c39
         have H1 : (laws_FnCut.j1 kj2 t775 true t771 t772 t777 t778 t789 t790) = some true := by rw [if_neg (show ¬ (false = true) by decide)] at H; exact H
         clear H
         have H := H1
         clear H1
         have H' := Aside0.mk H
         clear H
         try go_wp2
         have n0 : Aside0 (Kd.R k26 26 ((w32.setCell ⟨gb794, 0, none⟩ (.string t789)).setCell ⟨gb794, 1, none⟩ (.slice Ao36 t790.length co36)) w.heap.size (fun k_ => some k_ ≠ (.slice Ao23 t778.length co23 : Value).ownBlock ∧ some k_ ≠ (.slice Ao27 t783.length co27 : Value).ownBlock ∧ some k_ ≠ (.slice Ao36 t790.length co36 : Value).ownBlock) (.slice Ao18 t772.length co18) t772) := ⟨by (with_reducible repeat (first | apply Kd.R_alloc | apply Kd.R_drewN | apply Kd.R_drew)); exact Kd.R_mono (rf (Kd.R_types HO774.out BK794.out (by decide))) (fun _ hk => ⟨hk.1.1.1, ⟨hk.1.1.2, hk.1.2⟩⟩)⟩
         have n1 : Aside0 (Kd.R k26 26 ((w32.setCell ⟨gb794, 0, none⟩ (.string t789)).setCell ⟨gb794, 1, none⟩ (.slice Ao36 t790.length co36)) w.heap.size (fun k_ => some k_ ≠ (.slice Ao18 t772.length co18 : Value).ownBlock ∧ some k_ ≠ (.slice Ao27 t783.length co27 : Value).ownBlock ∧ some k_ ≠ (.slice Ao36 t790.length co36 : Value).ownBlock) (.slice Ao23 t778.length co23) t778) := ⟨by (with_reducible repeat (first | apply Kd.R_alloc | apply Kd.R_drewN | apply Kd.R_drew)); exact Kd.R_mono (rf (Kd.R_types HO780.out BK794.out (by decide))) (fun _ hk => ⟨hk.1.1.1, ⟨hk.1.1.2, hk.1.2⟩⟩)⟩
         have n2 : Aside0 (Kd.R k26 26 ((w32.setCell ⟨gb794, 0, none⟩ (.string t789)).setCell ⟨gb794, 1, none⟩ (.slice Ao36 t790.length co36)) w.heap.size (fun k_ => some k_ ≠ (.slice Ao18 t772.length co18 : Value).ownBlock ∧ some k_ ≠ (.slice Ao23 t778.length co23 : Value).ownBlock ∧ some k_ ≠ (.slice Ao36 t790.length co36 : Value).ownBlock) (.slice Ao27 t783.length co27) t783) := ⟨by (with_reducible repeat (first | apply Kd.R_alloc | apply Kd.R_drewN | apply Kd.R_drew)); exact Kd.R_mono (rf (Kd.R_types HO785.out BK794.out (by decide))) (fun _ hk => ⟨hk.1.1.1.2, ⟨hk.1.1.2, hk.1.2⟩⟩)⟩
         have n3 : Aside0 (Kd.R k26 26 ((w32.setCell ⟨gb794, 0, none⟩ (.string t789)).setCell ⟨gb794, 1, none⟩ (.slice Ao36 t790.length co36)) w.heap.size (fun k_ => some k_ ≠ (.slice Ao18 t772.length co18 : Value).ownBlock ∧ some k_ ≠ (.slice Ao23 t778.length co23 : Value).ownBlock ∧ some k_ ≠ (.slice Ao27 t783.length co27 : Value).ownBlock) (.slice Ao36 t790.length co36) t790) := ⟨by (with_reducible repeat (first | apply Kd.R_alloc | apply Kd.R_drewN | apply Kd.R_drew)); exact Kd.R_mono (rf (Kd.R_types HO792.out BK794.out (by decide))) (fun _ hk => ⟨hk.1.1.1.2, ⟨hk.1.1.2, hk.1.2⟩⟩)⟩
         have n4 : Aside0 (((w32.setCell ⟨gb794, 0, none⟩ (.string t789)).setCell ⟨gb794, 1, none⟩ (.slice Ao36 t790.length co36)).heap[gb776]? = some (.cells #[.string t771, .slice Ao18 t772.length co18] 39 (0, 0))) := ⟨bk BK776⟩
         have n5 : Aside0 (((w32.setCell ⟨gb794, 0, none⟩ (.string t789)).setCell ⟨gb794, 1, none⟩ (.slice Ao36 t790.length co36)).heap[gb781]? = some (.cells #[.string t777, .slice Ao23 t778.length co23] 39 (0, 0))) := ⟨bk BK781⟩
         have n6 : Aside0 (((w32.setCell ⟨gb794, 0, none⟩ (.string t789)).setCell ⟨gb794, 1, none⟩ (.slice Ao36 t790.length co36)).heap[gb794]? = some (.cells #[.string t789, .slice Ao36 t790.length co36] 39 (0, 0))) := ⟨bp BK794⟩
         have n7 : Aside0 (Below w.heap.size w ((w32.setCell ⟨gb794, 0, none⟩ (.string t789)).setCell ⟨gb794, 1, none⟩ (.slice Ao36 t790.length co36))) := ⟨bq⟩
         (try clear HO774)
         (try clear HO780)
         (try clear HO785)
         (try clear HO792)
         (try clear BK776)
         (try clear BK781)
         (try clear BK794)
         (try clear HB)
         generalize ((w32.setCell ⟨gb794, 0, none⟩ (.string t789)).setCell ⟨gb794, 1, none⟩ (.slice Ao36 t790.length co36)) = w70 at n0 n1 n2 n3 n4 n5 n6 n7 ⊢
         have HO774 := n0
         have HO780 := n1
         have HO785 := n2
         have HO792 := n3
         have BK776 := n4
         have BK781 := n5
         have BK794 := n6
         have HB := n7
         clear n0 n1 n2 n3 n4 n5 n6 n7
         have _ := ra (Kd.R_drew HO774.out)
         have _ := ra (Kd.R_drew HO780.out)
         have _ := ra (Kd.R_drew HO785.out)
         have _ := ra (Kd.R_drew HO792.out)
         have _ := ra (blk_drew BK776.out)
         have _ := ra (blk_drew BK781.out)
         have _ := ra (blk_drew BK794.out)
         have _ := ra (below_drew1 HB.out)
         clear HO774 HO780 HO785 HO792 BK776 BK781 BK794 HB
         rename_i HO774 HO780 HO785 HO792 BK776 BK781 BK794 HB
         refine start_ (n := 31) (S := fun w' => w'.cell? ⟨gb781, 0, none⟩ = some (.string t777) ∧ w'.cell? ⟨gb781, 1, none⟩ = some (.slice Ao23 t778.length co23) ∧ w'.cell? ⟨gb776, 0, none⟩ = some (.string t771) ∧ w'.cell? ⟨gb776, 1, none⟩ = some (.slice Ao18 t772.length co18)) (ds := []) (bl 31 0) (by kernel_rfl) rfl rfl ⟨(blk_cell BK781.out 0).trans rfl, (blk_cell BK781.out 1).trans rfl, (blk_cell BK776.out 0).trans rfl, (blk_cell BK776.out 1).trans rfl⟩ (fun hHeld => ?_); refine with_tabW laws_FnCut.tab10 laws_FnCut.bits10 (fun HT_ HW_ => ?_)
         generalize w70.drew = w71 at HO774 HO780 HO785 HO792 BK776 BK781 BK794 HB hHeld ⊢
         refine pu 0 44 (bl 31 1) ?_
         refine pu 1 45 (bl 31 3) ?_
         refine pu 2 46 (bl 31 7) ?_
         refine tk 3 47 (bl 31 15) ?_ hHeld
         refine tk 4 48 (bl 31 31) ?_ hHeld
         refine oe 5 49 (bl 31 63) (fun K hK => ?_)
         refine gs Try.func26 #[.agg #[.string t777, .slice Ao23 t778.length co23], .agg #[.string t771, .slice Ao18 t772.length co18]] ?_
         with_reducible refine (impl_ProbeSmaller.calls kj2 t777 _ _ t778 t771 _ _ t772 false _ ?side1 ?side2 ?side3 ?side4 A38.out).mono ?_
         (case side1 => exact sr HO780)
         (case side2 => exact (Kd.R_reads' HO780.out).2.1)
         (case side3 => exact sr HO774)
         (case side4 => exact (Kd.R_reads' HO774.out).2.1)
         rintro e w72 ⟨rfl, hb⟩
         refine ⟨_, rfl, ?_⟩
         have _ := ra (Kd.R_below (rq HO774) hb)
         have _ := ra (Kd.R_below (rq HO780) hb)
         have _ := ra (Kd.R_below (rq HO785) hb)
         have _ := ra (Kd.R_below (rq HO792) hb)
         have _ := bb (bk BK776) hb
         have _ := bb (bk BK781) hb
         have _ := bb (bk BK794) hb
         have _ := bs hb
         clear HO774 HO780 HO785 HO792 BK776 BK781 BK794 HB
         rename_i HO774 HO780 HO785 HO792 BK776 BK781 BK794 HB
         (try clear hb)
         (try clear hb2)
         (try clear hk)
         (try clear hi)
         refine hK.out _ _ ⟨(blk_cell BK781.out 0).trans rfl, (blk_cell BK781.out 1).trans rfl, (blk_cell BK776.out 0).trans rfl, (blk_cell BK776.out 1).trans rfl⟩ (fun hHeld => ?_)
         clear hK K
         refine nm 49 ?_
         refine pu 6 50 (bl 31 127) ?_
         refine pu 7 51 (bl 31 255) ?_
         refine pu 8 52 (bl 31 511) ?_
         refine pv 9 53 (bl 31 1023) ?_
         refine pv 10 54 (bl 31 2047) ?_
         refine pv 11 55 (bl 31 4095) ?_
         refine pv 12 56 (bl 31 8191) ?_
         refine pv 13 57 (bl 31 16383) ?_
         refine pv 14 58 (bl 31 32767) ?_
         refine pu 15 59 (bl 31 65535) ?_
         refine pu 16 60 (bl 31 131071) ?_
         refine pv 17 61 (bl 31 262143) ?_
         refine pv 18 62 (bl 31 524287) ?_
         refine pv 19 63 (bl 31 1048575) ?_
         refine pv 20 64 (bl 31 2097151) ?_
         refine pv 21 65 (bl 31 4194303) ?_
         refine pv 22 66 (bl 31 8388607) ?_
         refine pv 23 67 (bl 31 16777215) ?_
         refine pv 24 68 (bl 31 33554431) ?_
         refine pv 25 69 (bl 31 67108863) ?_
         refine pv 26 70 (bl 31 134217727) ?_
         refine pv 27 71 (bl 31 268435455) ?_
         refine pv 28 72 (bl 31 536870911) ?_
         refine pv 29 73 (bl 31 1073741823) ?_
         refine pu 30 74 (bl 31 2147483647) ?_
         refine done_ (done_of HT_.out (by kernel_rfl)) ?_
         try go_wp2
         go_meet
         case rel => exact ⟨_, (true), rs, H', ⟨by have := HJ2.out; first | omega | exact Nat.le_refl _⟩, ⟨by (with_reducible repeat (first | apply Kd.R_alloc | apply Kd.R_drewN | apply Kd.R_drew)); exact Kd.R_mono HO774.out (fun _ hk => ⟨hk.1, hk.2.2⟩)⟩, ⟨by (with_reducible repeat (first | apply Kd.R_alloc | apply Kd.R_drewN | apply Kd.R_drew)); exact Kd.R_mono HO780.out (fun _ hk => ⟨hk.1, hk.2.2⟩)⟩, ⟨by (with_reducible repeat (first | apply Kd.R_alloc | apply Kd.R_drewN | apply Kd.R_drew)); exact Kd.R_mono HO792.out (fun _ hk => ⟨hk.1, hk.2.1⟩)⟩, ⟨bk BK776⟩, ⟨bk BK781⟩, ⟨bk BK794⟩, ⟨bq⟩⟩
       ·rw [if_neg c37] at H
        have c37b0 : decide (t775 ≤ 10000) = false := decide_eq_false c37
        clear c37
        (first | rw [c37b0] | (simp only [i64_w, i32_w]; rw [c37b0]) | skip)
        obtain ⟨⟨t810, t811⟩, A73, H⟩ := bo H
        try dsimp only at H
        obtain ⟨t814, A74, H⟩ := bo H
        by_cases c75 : t814 = true
        ·subst c75
         replace H := it H rfl
         by_cases c76 : t775 ≤ t793
         ·rw [if_pos c76] at H
          have c76b0 : decide (t775 ≤ t793) = true := decide_eq_true c76
          clear c76
          obtain ⟨⟨t815, t816⟩, A77, H⟩ := bo H
          try dsimp only at H
          obtain ⟨⟨t819, t820⟩, A78, H⟩ := bo H
          try dsimp only at H
          obtain ⟨t823, A79, H⟩ := bo H
          have H' := Aside0.mk H
          clear H
          try go_wp2
          have n0 : Aside0 (Kd.R k26 26 ((w32.setCell ⟨gb794, 0, none⟩ (.string t789)).setCell ⟨gb794, 1, none⟩ (.slice Ao36 t790.length co36)) w.heap.size (fun k_ => some k_ ≠ (.slice Ao23 t778.length co23 : Value).ownBlock ∧ some k_ ≠ (.slice Ao27 t783.length co27 : Value).ownBlock ∧ some k_ ≠ (.slice Ao36 t790.length co36 : Value).ownBlock) (.slice Ao18 t772.length co18) t772) := ⟨by (with_reducible repeat (first | apply Kd.R_alloc | apply Kd.R_drewN | apply Kd.R_drew)); exact Kd.R_mono (rf (Kd.R_types HO774.out BK794.out (by decide))) (fun _ hk => ⟨hk.1.1.1, ⟨hk.1.1.2, hk.1.2⟩⟩)⟩
          have n1 : Aside0 (Kd.R k26 26 ((w32.setCell ⟨gb794, 0, none⟩ (.string t789)).setCell ⟨gb794, 1, none⟩ (.slice Ao36 t790.length co36)) w.heap.size (fun k_ => some k_ ≠ (.slice Ao18 t772.length co18 : Value).ownBlock ∧ some k_ ≠ (.slice Ao27 t783.length co27 : Value).ownBlock ∧ some k_ ≠ (.slice Ao36 t790.length co36 : Value).ownBlock) (.slice Ao23 t778.length co23) t778) := ⟨by (with_reducible repeat (first | apply Kd.R_alloc | apply Kd.R_drewN | apply Kd.R_drew)); exact Kd.R_mono (rf (Kd.R_types HO780.out BK794.out (by decide))) (fun _ hk => ⟨hk.1.1.1, ⟨hk.1.1.2, hk.1.2⟩⟩)⟩
          have n2 : Aside0 (Kd.R k26 26 ((w32.setCell ⟨gb794, 0, none⟩ (.string t789)).setCell ⟨gb794, 1, none⟩ (.slice Ao36 t790.length co36)) w.heap.size (fun k_ => some k_ ≠ (.slice Ao18 t772.length co18 : Value).ownBlock ∧ some k_ ≠ (.slice Ao23 t778.length co23 : Value).ownBlock ∧ some k_ ≠ (.slice Ao36 t790.length co36 : Value).ownBlock) (.slice Ao27 t783.length co27) t783) := ⟨by (with_reducible repeat (first | apply Kd.R_alloc | apply Kd.R_drewN | apply Kd.R_drew)); exact Kd.R_mono (rf (Kd.R_types HO785.out BK794.out (by decide))) (fun _ hk => ⟨hk.1.1.1.2, ⟨hk.1.1.2, hk.1.2⟩⟩)⟩
          have n3 : Aside0 (Kd.R k26 26 ((w32.setCell ⟨gb794, 0, none⟩ (.string t789)).setCell ⟨gb794, 1, none⟩ (.slice Ao36 t790.length co36)) w.heap.size (fun k_ => some k_ ≠ (.slice Ao18 t772.length co18 : Value).ownBlock ∧ some k_ ≠ (.slice Ao23 t778.length co23 : Value).ownBlock ∧ some k_ ≠ (.slice Ao27 t783.length co27 : Value).ownBlock) (.slice Ao36 t790.length co36) t790) := ⟨by (with_reducible repeat (first | apply Kd.R_alloc | apply Kd.R_drewN | apply Kd.R_drew)); exact Kd.R_mono (rf (Kd.R_types HO792.out BK794.out (by decide))) (fun _ hk => ⟨hk.1.1.1.2, ⟨hk.1.1.2, hk.1.2⟩⟩)⟩
          have n4 : Aside0 (((w32.setCell ⟨gb794, 0, none⟩ (.string t789)).setCell ⟨gb794, 1, none⟩ (.slice Ao36 t790.length co36)).heap[gb776]? = some (.cells #[.string t771, .slice Ao18 t772.length co18] 39 (0, 0))) := ⟨bk BK776⟩
          have n5 : Aside0 (((w32.setCell ⟨gb794, 0, none⟩ (.string t789)).setCell ⟨gb794, 1, none⟩ (.slice Ao36 t790.length co36)).heap[gb781]? = some (.cells #[.string t777, .slice Ao23 t778.length co23] 39 (0, 0))) := ⟨bk BK781⟩
          have n6 : Aside0 (((w32.setCell ⟨gb794, 0, none⟩ (.string t789)).setCell ⟨gb794, 1, none⟩ (.slice Ao36 t790.length co36)).heap[gb794]? = some (.cells #[.string t789, .slice Ao36 t790.length co36] 39 (0, 0))) := ⟨bp BK794⟩
          have n7 : Aside0 (Below w.heap.size w ((w32.setCell ⟨gb794, 0, none⟩ (.string t789)).setCell ⟨gb794, 1, none⟩ (.slice Ao36 t790.length co36))) := ⟨bq⟩
          (try clear HO774)
          (try clear HO780)
          (try clear HO785)
          (try clear HO792)
          (try clear BK776)
          (try clear BK781)
          (try clear BK794)
          (try clear HB)
          generalize ((w32.setCell ⟨gb794, 0, none⟩ (.string t789)).setCell ⟨gb794, 1, none⟩ (.slice Ao36 t790.length co36)) = w80 at n0 n1 n2 n3 n4 n5 n6 n7 ⊢
          have HO774 := n0
          have HO780 := n1
          have HO785 := n2
          have HO792 := n3
          have BK776 := n4
          have BK781 := n5
          have BK794 := n6
          have HB := n7
          clear n0 n1 n2 n3 n4 n5 n6 n7
          have _ := ra (Kd.R_drew HO774.out)
          have _ := ra (Kd.R_drew HO780.out)
          have _ := ra (Kd.R_drew HO785.out)
          have _ := ra (Kd.R_drew HO792.out)
          have _ := ra (blk_drew BK776.out)
          have _ := ra (blk_drew BK781.out)
          have _ := ra (blk_drew BK794.out)
          have _ := ra (below_drew1 HB.out)
          clear HO774 HO780 HO785 HO792 BK776 BK781 BK794 HB
          rename_i HO774 HO780 HO785 HO792 BK776 BK781 BK794 HB
          refine start_ (n := 31) (S := fun w' => w'.cell? ⟨gb781, 0, none⟩ = some (.string t777) ∧ w'.cell? ⟨gb781, 1, none⟩ = some (.slice Ao23 t778.length co23) ∧ w'.cell? ⟨gb776, 0, none⟩ = some (.string t771) ∧ w'.cell? ⟨gb776, 1, none⟩ = some (.slice Ao18 t772.length co18)) (ds := []) (bl 31 0) (by kernel_rfl) rfl rfl ⟨(blk_cell BK781.out 0).trans rfl, (blk_cell BK781.out 1).trans rfl, (blk_cell BK776.out 0).trans rfl, (blk_cell BK776.out 1).trans rfl⟩ (fun hHeld => ?_); refine with_tabW laws_FnCut.tab10 laws_FnCut.bits10 (fun HT_ HW_ => ?_)
          generalize w80.drew = w81 at HO774 HO780 HO785 HO792 BK776 BK781 BK794 HB hHeld ⊢
          refine pu 0 44 (bl 31 1) ?_
          refine pu 1 45 (bl 31 3) ?_
          refine pu 2 46 (bl 31 7) ?_
          refine pv 3 47 (bl 31 15) ?_
          refine pv 4 48 (bl 31 31) ?_
          refine pv 5 49 (bl 31 63) ?_
          refine pv 6 50 (bl 31 127) ?_
          refine pu 7 51 (bl 31 255) ?_
          refine pu 8 52 (bl 31 511) ?_
          refine pu 10 54 (bl 31 1535) ?_
          refine tk 9 53 (bl 31 2047) ?_ hHeld
          refine tk 12 56 (bl 31 6143) ?_ hHeld
          refine oe 11 55 (bl 31 8191) (fun K hK => ?_)
          refine gs Try.func36 #[.agg #[.string t777, .slice Ao23 t778.length co23], .int .i64 t775] ?_
          with_reducible refine (impl_ProbeCut.calls kj2 t777 _ _ t778 t775 t810 t811 _ ?side1 ?side2 A73.out).mono ?_
          (case side1 => exact sr HO780)
          (case side2 => exact (Kd.R_reads' HO780.out).2.1)
          rintro e w82 ⟨v812, rfl, ho0, hb⟩
          refine ⟨_, rfl, ?_⟩
          have _ := ra (Kd.R_elder' (rq HO774) (Kd.R_base ho0) hb)
          have _ := ra (Kd.R_elder' (rq HO780) (Kd.R_base ho0) hb)
          have _ := ra (Kd.R_elder' (rq HO785) (Kd.R_base ho0) hb)
          have _ := ra (Kd.R_elder' (rq HO792) (Kd.R_base ho0) hb)
          have _ := ra (Kd.R_lower (Kd.R_new' (Kd.R_new' (Kd.R_new' (Kd.R_new' ho0 (Kd.R_lt (rq HO774))) (Kd.R_lt (rq HO780))) (Kd.R_lt (rq HO785))) (Kd.R_lt (rq HO792))) (below_size bq))
          have _ := bb (bk BK776) hb
          have _ := bb (bk BK781) hb
          have _ := bb (bk BK794) hb
          have _ := bs hb
          clear HO774 HO780 HO785 HO792 BK776 BK781 BK794 HB
          rename_i HO774 HO780 HO785 HO792 HO813 BK776 BK781 BK794 HB
          (try clear hb)
          (try clear hb2)
          (try clear hk)
          (try clear hi)
          (try clear ho0)
          obtain ⟨Ao83, co83, eo83⟩ := Kd.R_slice HO813.out
          (first | subst eo83 | (injection eo83 with f1_ f2_ f3_; have f4_ := f1_.symm; have f5_ := f3_.symm; clear f1_ f2_ f3_; subst f4_; subst f5_))
          refine hK.out _ _ ⟨(blk_cell BK781.out 0).trans rfl, (blk_cell BK781.out 1).trans rfl, (blk_cell BK776.out 0).trans rfl, (blk_cell BK776.out 1).trans rfl⟩ (fun hHeld => ?_)
          clear hK K
          refine nm 55 ?_
          refine oe 13 57 (bl 31 16383) (fun K hK => ?_)
          refine gs Try.func42 #[.agg #[.string t810, .slice Ao83 t811.length co83], .agg #[.string t777, .slice Ao23 t778.length co23]] ?_
          with_reducible refine (laws_wTube.calls kj2 t810 _ _ t811 t777 _ _ t778 true _ ?side1 ?side2 ?side3 ?side4 A74.out).mono ?_
          (case side1 => exact sr HO813)
          (case side2 => exact (Kd.R_reads' HO813.out).2.1)
          (case side3 => exact sr HO780)
          (case side4 => exact (Kd.R_reads' HO780.out).2.1)
          rintro e w84 ⟨rfl, hb⟩
          refine ⟨_, rfl, ?_⟩
          have _ := ra (Kd.R_below (rq HO774) hb)
          have _ := ra (Kd.R_below (rq HO780) hb)
          have _ := ra (Kd.R_below (rq HO785) hb)
          have _ := ra (Kd.R_below (rq HO792) hb)
          have _ := ra (Kd.R_below (rq HO813) hb)
          have _ := bb (bk BK776) hb
          have _ := bb (bk BK781) hb
          have _ := bb (bk BK794) hb
          have _ := bs hb
          clear HO774 HO780 HO785 HO792 HO813 BK776 BK781 BK794 HB
          rename_i HO774 HO780 HO785 HO792 HO813 BK776 BK781 BK794 HB
          (try clear hb)
          (try clear hb2)
          (try clear hk)
          (try clear hi)
          refine hK.out _ _ ⟨(blk_cell BK781.out 0).trans rfl, (blk_cell BK781.out 1).trans rfl, (blk_cell BK776.out 0).trans rfl, (blk_cell BK776.out 1).trans rfl⟩ (fun hHeld => ?_)
          clear hK K
          refine nm 57 ?_
          refine pu 14 58 (bl 31 32767) ?_
          refine pu 15 59 (bl 31 65535) ?_
          refine pu 16 60 (bl 31 131071) ?_
          refine pu 17 61 (bl 31 262143) ?_
          refine pu 18 62 (bl 31 524287) ?_
          refine pu 19 63 (bl 31 1048575) ?_
          refine pu 20 64 (bl 31 2097151) ?_
          refine pu 22 66 (bl 31 6291455) ?_
          refine pu 25 69 (bl 31 39845887) ?_
          refine tk 21 65 (bl 31 41943039) ?_ hHeld
          refine tk 24 68 (bl 31 58720255) ?_ hHeld
          refine oe 23 67 (bl 31 67108863) (fun K hK => ?_)
          refine gs Try.func36 #[.agg #[.string t777, .slice Ao23 t778.length co23], .int .i64 t793] ?_
          with_reducible refine (impl_ProbeCut.calls kj2 t777 _ _ t778 t793 t815 t816 _ ?side1 ?side2 A77.out).mono ?_
          (case side1 => exact sr HO780)
          (case side2 => exact (Kd.R_reads' HO780.out).2.1)
          rintro e w85 ⟨v817, rfl, ho0, hb⟩
          refine ⟨_, rfl, ?_⟩
          have _ := ra (Kd.R_elder' (rq HO774) (Kd.R_base ho0) hb)
          have _ := ra (Kd.R_elder' (rq HO780) (Kd.R_base ho0) hb)
          have _ := ra (Kd.R_elder' (rq HO785) (Kd.R_base ho0) hb)
          have _ := ra (Kd.R_elder' (rq HO792) (Kd.R_base ho0) hb)
          have _ := ra (Kd.R_elder' (rq HO813) (Kd.R_base ho0) hb)
          have _ := ra (Kd.R_lower (Kd.R_new' (Kd.R_new' (Kd.R_new' (Kd.R_new' (Kd.R_new' ho0 (Kd.R_lt (rq HO774))) (Kd.R_lt (rq HO780))) (Kd.R_lt (rq HO785))) (Kd.R_lt (rq HO792))) (Kd.R_lt (rq HO813))) (below_size bq))
          have _ := bb (bk BK776) hb
          have _ := bb (bk BK781) hb
          have _ := bb (bk BK794) hb
          have _ := bs hb
          clear HO774 HO780 HO785 HO792 HO813 BK776 BK781 BK794 HB
          rename_i HO774 HO780 HO785 HO792 HO813 HO818 BK776 BK781 BK794 HB
          (try clear hb)
          (try clear hb2)
          (try clear hk)
          (try clear hi)
          (try clear ho0)
          refine hK.out _ _ ⟨(blk_cell BK781.out 0).trans rfl, (blk_cell BK781.out 1).trans rfl, (blk_cell BK776.out 0).trans rfl, (blk_cell BK776.out 1).trans rfl⟩ (fun hHeld => ?_)
          clear hK K
          refine nm 67 ?_
          refine oe 26 70 (bl 31 134217727) (fun K hK => ?_)
          refine gs Try.func36 #[.agg #[.string t771, .slice Ao18 t772.length co18], .int .i64 t793] ?_
          with_reducible refine (impl_ProbeCut.calls kj2 t771 _ _ t772 t793 t819 t820 _ ?side1 ?side2 A78.out).mono ?_
          (case side1 => exact sr HO774)
          (case side2 => exact (Kd.R_reads' HO774.out).2.1)
          rintro e w86 ⟨v821, rfl, ho0, hb⟩
          refine ⟨_, rfl, ?_⟩
          have _ := ra (Kd.R_elder' (rq HO774) (Kd.R_base ho0) hb)
          have _ := ra (Kd.R_elder' (rq HO780) (Kd.R_base ho0) hb)
          have _ := ra (Kd.R_elder' (rq HO785) (Kd.R_base ho0) hb)
          have _ := ra (Kd.R_elder' (rq HO792) (Kd.R_base ho0) hb)
          have _ := ra (Kd.R_elder' (rq HO813) (Kd.R_base ho0) hb)
          have _ := ra (Kd.R_elder' (rq HO818) (Kd.R_base ho0) hb)
          have _ := ra (Kd.R_lower (Kd.R_new' (Kd.R_new' (Kd.R_new' (Kd.R_new' (Kd.R_new' (Kd.R_new' ho0 (Kd.R_lt (rq HO774))) (Kd.R_lt (rq HO780))) (Kd.R_lt (rq HO785))) (Kd.R_lt (rq HO792))) (Kd.R_lt (rq HO813))) (Kd.R_lt (rq HO818))) (below_size bq))
          have _ := bb (bk BK776) hb
          have _ := bb (bk BK781) hb
          have _ := bb (bk BK794) hb
          have _ := bs hb
          clear HO774 HO780 HO785 HO792 HO813 HO818 BK776 BK781 BK794 HB
          rename_i HO774 HO780 HO785 HO792 HO813 HO818 HO822 BK776 BK781 BK794 HB
          (try clear hb)
          (try clear hb2)
          (try clear hk)
          (try clear hi)
          (try clear ho0)
          obtain ⟨Ao87, co87, eo87⟩ := Kd.R_slice HO818.out
          (first | subst eo87 | (injection eo87 with f1_ f2_ f3_; have f4_ := f1_.symm; have f5_ := f3_.symm; clear f1_ f2_ f3_; subst f4_; subst f5_))
          obtain ⟨Ao88, co88, eo88⟩ := Kd.R_slice HO822.out
          (first | subst eo88 | (injection eo88 with f1_ f2_ f3_; have f4_ := f1_.symm; have f5_ := f3_.symm; clear f1_ f2_ f3_; subst f4_; subst f5_))
          refine hK.out _ _ ⟨(blk_cell BK781.out 0).trans rfl, (blk_cell BK781.out 1).trans rfl, (blk_cell BK776.out 0).trans rfl, (blk_cell BK776.out 1).trans rfl⟩ (fun hHeld => ?_)
          clear hK K
          refine nm 70 ?_
          refine oe 27 71 (bl 31 268435455) (fun K hK => ?_)
          refine gs Try.func42 #[.agg #[.string t815, .slice Ao87 t816.length co87], .agg #[.string t819, .slice Ao88 t820.length co88]] ?_
          with_reducible refine (laws_wTube.calls kj2 t815 _ _ t816 t819 _ _ t820 t823 _ ?side1 ?side2 ?side3 ?side4 A79.out).mono ?_
          (case side1 => exact sr HO818)
          (case side2 => exact (Kd.R_reads' HO818.out).2.1)
          (case side3 => exact sr HO822)
          (case side4 => exact (Kd.R_reads' HO822.out).2.1)
          rintro e w89 ⟨rfl, hb⟩
          refine ⟨_, rfl, ?_⟩
          have _ := ra (Kd.R_below (rq HO774) hb)
          have _ := ra (Kd.R_below (rq HO780) hb)
          have _ := ra (Kd.R_below (rq HO785) hb)
          have _ := ra (Kd.R_below (rq HO792) hb)
          have _ := ra (Kd.R_below (rq HO813) hb)
          have _ := ra (Kd.R_below (rq HO818) hb)
          have _ := ra (Kd.R_below (rq HO822) hb)
          have _ := bb (bk BK776) hb
          have _ := bb (bk BK781) hb
          have _ := bb (bk BK794) hb
          have _ := bs hb
          clear HO774 HO780 HO785 HO792 HO813 HO818 HO822 BK776 BK781 BK794 HB
          rename_i HO774 HO780 HO785 HO792 HO813 HO818 HO822 BK776 BK781 BK794 HB
          (try clear hb)
          (try clear hb2)
          (try clear hk)
          (try clear hi)
          refine hK.out _ _ ⟨(blk_cell BK781.out 0).trans rfl, (blk_cell BK781.out 1).trans rfl, (blk_cell BK776.out 0).trans rfl, (blk_cell BK776.out 1).trans rfl⟩ (fun hHeld => ?_)
          clear hK K
          refine nm 71 ?_
          refine pu 28 72 (bl 31 536870911) ?_
          refine pu 29 73 (bl 31 1073741823) ?_
          refine pu 30 74 (bl 31 2147483647) ?_
          refine done_ (done_of HT_.out (by kernel_rfl)) ?_
          try go_wp2
          go_meet
          case rel => exact ⟨_, (!t823), rs, H', ⟨by have := HJ2.out; first | omega | exact Nat.le_refl _⟩, ⟨by (with_reducible repeat (first | apply Kd.R_alloc | apply Kd.R_drewN | apply Kd.R_drew)); exact Kd.R_mono HO774.out (fun _ hk => ⟨hk.1.1.1.1, hk.1.1.1.2.2⟩)⟩, ⟨by (with_reducible repeat (first | apply Kd.R_alloc | apply Kd.R_drewN | apply Kd.R_drew)); exact Kd.R_mono HO780.out (fun _ hk => ⟨hk.1.1.1.1, hk.1.1.1.2.2⟩)⟩, ⟨by (with_reducible repeat (first | apply Kd.R_alloc | apply Kd.R_drewN | apply Kd.R_drew)); exact Kd.R_mono HO792.out (fun _ hk => ⟨hk.1.1.1.1, hk.1.1.1.2.1⟩)⟩, ⟨bk BK776⟩, ⟨bk BK781⟩, ⟨bk BK794⟩, ⟨bq⟩⟩
         ·rw [if_neg c76] at H
          have c76b0 : decide (t775 ≤ t793) = false := decide_eq_false c76
          clear c76
          have H' := Aside0.mk H
          clear H
          try go_wp2
          have n0 : Aside0 (Kd.R k26 26 ((w32.setCell ⟨gb794, 0, none⟩ (.string t789)).setCell ⟨gb794, 1, none⟩ (.slice Ao36 t790.length co36)) w.heap.size (fun k_ => some k_ ≠ (.slice Ao23 t778.length co23 : Value).ownBlock ∧ some k_ ≠ (.slice Ao27 t783.length co27 : Value).ownBlock ∧ some k_ ≠ (.slice Ao36 t790.length co36 : Value).ownBlock) (.slice Ao18 t772.length co18) t772) := ⟨by (with_reducible repeat (first | apply Kd.R_alloc | apply Kd.R_drewN | apply Kd.R_drew)); exact Kd.R_mono (rf (Kd.R_types HO774.out BK794.out (by decide))) (fun _ hk => ⟨hk.1.1.1, ⟨hk.1.1.2, hk.1.2⟩⟩)⟩
          have n1 : Aside0 (Kd.R k26 26 ((w32.setCell ⟨gb794, 0, none⟩ (.string t789)).setCell ⟨gb794, 1, none⟩ (.slice Ao36 t790.length co36)) w.heap.size (fun k_ => some k_ ≠ (.slice Ao18 t772.length co18 : Value).ownBlock ∧ some k_ ≠ (.slice Ao27 t783.length co27 : Value).ownBlock ∧ some k_ ≠ (.slice Ao36 t790.length co36 : Value).ownBlock) (.slice Ao23 t778.length co23) t778) := ⟨by (with_reducible repeat (first | apply Kd.R_alloc | apply Kd.R_drewN | apply Kd.R_drew)); exact Kd.R_mono (rf (Kd.R_types HO780.out BK794.out (by decide))) (fun _ hk => ⟨hk.1.1.1, ⟨hk.1.1.2, hk.1.2⟩⟩)⟩
          have n2 : Aside0 (Kd.R k26 26 ((w32.setCell ⟨gb794, 0, none⟩ (.string t789)).setCell ⟨gb794, 1, none⟩ (.slice Ao36 t790.length co36)) w.heap.size (fun k_ => some k_ ≠ (.slice Ao18 t772.length co18 : Value).ownBlock ∧ some k_ ≠ (.slice Ao23 t778.length co23 : Value).ownBlock ∧ some k_ ≠ (.slice Ao36 t790.length co36 : Value).ownBlock) (.slice Ao27 t783.length co27) t783) := ⟨by (with_reducible repeat (first | apply Kd.R_alloc | apply Kd.R_drewN | apply Kd.R_drew)); exact Kd.R_mono (rf (Kd.R_types HO785.out BK794.out (by decide))) (fun _ hk => ⟨hk.1.1.1.2, ⟨hk.1.1.2, hk.1.2⟩⟩)⟩
          have n3 : Aside0 (Kd.R k26 26 ((w32.setCell ⟨gb794, 0, none⟩ (.string t789)).setCell ⟨gb794, 1, none⟩ (.slice Ao36 t790.length co36)) w.heap.size (fun k_ => some k_ ≠ (.slice Ao18 t772.length co18 : Value).ownBlock ∧ some k_ ≠ (.slice Ao23 t778.length co23 : Value).ownBlock ∧ some k_ ≠ (.slice Ao27 t783.length co27 : Value).ownBlock) (.slice Ao36 t790.length co36) t790) := ⟨by (with_reducible repeat (first | apply Kd.R_alloc | apply Kd.R_drewN | apply Kd.R_drew)); exact Kd.R_mono (rf (Kd.R_types HO792.out BK794.out (by decide))) (fun _ hk => ⟨hk.1.1.1.2, ⟨hk.1.1.2, hk.1.2⟩⟩)⟩
          have n4 : Aside0 (((w32.setCell ⟨gb794, 0, none⟩ (.string t789)).setCell ⟨gb794, 1, none⟩ (.slice Ao36 t790.length co36)).heap[gb776]? = some (.cells #[.string t771, .slice Ao18 t772.length co18] 39 (0, 0))) := ⟨bk BK776⟩
          have n5 : Aside0 (((w32.setCell ⟨gb794, 0, none⟩ (.string t789)).setCell ⟨gb794, 1, none⟩ (.slice Ao36 t790.length co36)).heap[gb781]? = some (.cells #[.string t777, .slice Ao23 t778.length co23] 39 (0, 0))) := ⟨bk BK781⟩
          have n6 : Aside0 (((w32.setCell ⟨gb794, 0, none⟩ (.string t789)).setCell ⟨gb794, 1, none⟩ (.slice Ao36 t790.length co36)).heap[gb794]? = some (.cells #[.string t789, .slice Ao36 t790.length co36] 39 (0, 0))) := ⟨bp BK794⟩
          have n7 : Aside0 (Below w.heap.size w ((w32.setCell ⟨gb794, 0, none⟩ (.string t789)).setCell ⟨gb794, 1, none⟩ (.slice Ao36 t790.length co36))) := ⟨bq⟩
          (try clear HO774)
          (try clear HO780)
          (try clear HO785)
          (try clear HO792)
          (try clear BK776)
          (try clear BK781)
          (try clear BK794)
          (try clear HB)
          generalize ((w32.setCell ⟨gb794, 0, none⟩ (.string t789)).setCell ⟨gb794, 1, none⟩ (.slice Ao36 t790.length co36)) = w90 at n0 n1 n2 n3 n4 n5 n6 n7 ⊢
          have HO774 := n0
          have HO780 := n1
          have HO785 := n2
          have HO792 := n3
          have BK776 := n4
          have BK781 := n5
          have BK794 := n6
          have HB := n7
          clear n0 n1 n2 n3 n4 n5 n6 n7
          have _ := ra (Kd.R_drew HO774.out)
          have _ := ra (Kd.R_drew HO780.out)
          have _ := ra (Kd.R_drew HO785.out)
          have _ := ra (Kd.R_drew HO792.out)
          have _ := ra (blk_drew BK776.out)
          have _ := ra (blk_drew BK781.out)
          have _ := ra (blk_drew BK794.out)
          have _ := ra (below_drew1 HB.out)
          clear HO774 HO780 HO785 HO792 BK776 BK781 BK794 HB
          rename_i HO774 HO780 HO785 HO792 BK776 BK781 BK794 HB
          refine start_ (n := 31) (S := fun w' => w'.cell? ⟨gb781, 0, none⟩ = some (.string t777) ∧ w'.cell? ⟨gb781, 1, none⟩ = some (.slice Ao23 t778.length co23)) (ds := []) (bl 31 0) (by kernel_rfl) rfl rfl ⟨(blk_cell BK781.out 0).trans rfl, (blk_cell BK781.out 1).trans rfl⟩ (fun hHeld => ?_); refine with_tabW laws_FnCut.tab10 laws_FnCut.bits10 (fun HT_ HW_ => ?_)
          generalize w90.drew = w91 at HO774 HO780 HO785 HO792 BK776 BK781 BK794 HB hHeld ⊢
          refine pu 0 44 (bl 31 1) ?_
          refine pu 1 45 (bl 31 3) ?_
          refine pu 2 46 (bl 31 7) ?_
          refine pv 3 47 (bl 31 15) ?_
          refine pv 4 48 (bl 31 31) ?_
          refine pv 5 49 (bl 31 63) ?_
          refine pv 6 50 (bl 31 127) ?_
          refine pu 7 51 (bl 31 255) ?_
          refine pu 8 52 (bl 31 511) ?_
          refine pu 10 54 (bl 31 1535) ?_
          refine tk 9 53 (bl 31 2047) ?_ hHeld
          refine tk 12 56 (bl 31 6143) ?_ hHeld
          refine oe 11 55 (bl 31 8191) (fun K hK => ?_)
          refine gs Try.func36 #[.agg #[.string t777, .slice Ao23 t778.length co23], .int .i64 t775] ?_
          with_reducible refine (impl_ProbeCut.calls kj2 t777 _ _ t778 t775 t810 t811 _ ?side1 ?side2 A73.out).mono ?_
          (case side1 => exact sr HO780)
          (case side2 => exact (Kd.R_reads' HO780.out).2.1)
          rintro e w92 ⟨v812, rfl, ho0, hb⟩
          refine ⟨_, rfl, ?_⟩
          have _ := ra (Kd.R_elder' (rq HO774) (Kd.R_base ho0) hb)
          have _ := ra (Kd.R_elder' (rq HO780) (Kd.R_base ho0) hb)
          have _ := ra (Kd.R_elder' (rq HO785) (Kd.R_base ho0) hb)
          have _ := ra (Kd.R_elder' (rq HO792) (Kd.R_base ho0) hb)
          have _ := ra (Kd.R_lower (Kd.R_new' (Kd.R_new' (Kd.R_new' (Kd.R_new' ho0 (Kd.R_lt (rq HO774))) (Kd.R_lt (rq HO780))) (Kd.R_lt (rq HO785))) (Kd.R_lt (rq HO792))) (below_size bq))
          have _ := bb (bk BK776) hb
          have _ := bb (bk BK781) hb
          have _ := bb (bk BK794) hb
          have _ := bs hb
          clear HO774 HO780 HO785 HO792 BK776 BK781 BK794 HB
          rename_i HO774 HO780 HO785 HO792 HO813 BK776 BK781 BK794 HB
          (try clear hb)
          (try clear hb2)
          (try clear hk)
          (try clear hi)
          (try clear ho0)
          obtain ⟨Ao93, co93, eo93⟩ := Kd.R_slice HO813.out
          (first | subst eo93 | (injection eo93 with f1_ f2_ f3_; have f4_ := f1_.symm; have f5_ := f3_.symm; clear f1_ f2_ f3_; subst f4_; subst f5_))
          refine hK.out _ _ ⟨(blk_cell BK781.out 0).trans rfl, (blk_cell BK781.out 1).trans rfl⟩ (fun hHeld => ?_)
          clear hK K
          refine nm 55 ?_
          refine oe 13 57 (bl 31 16383) (fun K hK => ?_)
          refine gs Try.func42 #[.agg #[.string t810, .slice Ao93 t811.length co93], .agg #[.string t777, .slice Ao23 t778.length co23]] ?_
          with_reducible refine (laws_wTube.calls kj2 t810 _ _ t811 t777 _ _ t778 true _ ?side1 ?side2 ?side3 ?side4 A74.out).mono ?_
          (case side1 => exact sr HO813)
          (case side2 => exact (Kd.R_reads' HO813.out).2.1)
          (case side3 => exact sr HO780)
          (case side4 => exact (Kd.R_reads' HO780.out).2.1)
          rintro e w94 ⟨rfl, hb⟩
          refine ⟨_, rfl, ?_⟩
          have _ := ra (Kd.R_below (rq HO774) hb)
          have _ := ra (Kd.R_below (rq HO780) hb)
          have _ := ra (Kd.R_below (rq HO785) hb)
          have _ := ra (Kd.R_below (rq HO792) hb)
          have _ := ra (Kd.R_below (rq HO813) hb)
          have _ := bb (bk BK776) hb
          have _ := bb (bk BK781) hb
          have _ := bb (bk BK794) hb
          have _ := bs hb
          clear HO774 HO780 HO785 HO792 HO813 BK776 BK781 BK794 HB
          rename_i HO774 HO780 HO785 HO792 HO813 BK776 BK781 BK794 HB
          (try clear hb)
          (try clear hb2)
          (try clear hk)
          (try clear hi)
          refine hK.out _ _ ⟨(blk_cell BK781.out 0).trans rfl, (blk_cell BK781.out 1).trans rfl⟩ (fun hHeld => ?_)
          clear hK K
          refine nm 57 ?_
          refine pu 14 58 (bl 31 32767) ?_
          refine pu 15 59 (bl 31 65535) ?_
          refine pu 16 60 (bl 31 131071) ?_
          refine pu 17 61 (bl 31 262143) ?_
          refine pu 18 62 (bl 31 524287) ?_
          refine pu 19 63 (bl 31 1048575) ?_
          refine pu 20 64 (bl 31 2097151) ?_
          refine pv 21 65 (bl 31 4194303) ?_
          refine pv 22 66 (bl 31 8388607) ?_
          refine pv 23 67 (bl 31 16777215) ?_
          refine pv 24 68 (bl 31 33554431) ?_
          refine pv 25 69 (bl 31 67108863) ?_
          refine pv 26 70 (bl 31 134217727) ?_
          refine pv 27 71 (bl 31 268435455) ?_
          refine pv 28 72 (bl 31 536870911) ?_
          refine pu 29 73 (bl 31 1073741823) ?_
          refine pu 30 74 (bl 31 2147483647) ?_
          refine done_ (done_of HT_.out (by kernel_rfl)) ?_
          try go_wp2
          go_meet
          case rel => exact ⟨_, (false), rs, H', ⟨by have := HJ2.out; first | omega | exact Nat.le_refl _⟩, ⟨by (with_reducible repeat (first | apply Kd.R_alloc | apply Kd.R_drewN | apply Kd.R_drew)); exact Kd.R_mono HO774.out (fun _ hk => ⟨hk.1.1, hk.1.2.2⟩)⟩, ⟨by (with_reducible repeat (first | apply Kd.R_alloc | apply Kd.R_drewN | apply Kd.R_drew)); exact Kd.R_mono HO780.out (fun _ hk => ⟨hk.1.1, hk.1.2.2⟩)⟩, ⟨by (with_reducible repeat (first | apply Kd.R_alloc | apply Kd.R_drewN | apply Kd.R_drew)); exact Kd.R_mono HO792.out (fun _ hk => ⟨hk.1.1, hk.1.2.1⟩)⟩, ⟨bk BK776⟩, ⟨bk BK781⟩, ⟨bk BK794⟩, ⟨bq⟩⟩
        ·replace c75 := Bool.eq_false_iff.mpr c75
         subst c75
         have H1 : (laws_FnCut.j1 kj2 t775 true t771 t772 t777 t778 t789 t790) = some true := by rw [if_neg (show ¬ (false = true) by decide)] at H; exact H
         clear H
         have H := H1
         clear H1
         have H' := Aside0.mk H
         clear H
         try go_wp2
         have n0 : Aside0 (Kd.R k26 26 ((w32.setCell ⟨gb794, 0, none⟩ (.string t789)).setCell ⟨gb794, 1, none⟩ (.slice Ao36 t790.length co36)) w.heap.size (fun k_ => some k_ ≠ (.slice Ao23 t778.length co23 : Value).ownBlock ∧ some k_ ≠ (.slice Ao27 t783.length co27 : Value).ownBlock ∧ some k_ ≠ (.slice Ao36 t790.length co36 : Value).ownBlock) (.slice Ao18 t772.length co18) t772) := ⟨by (with_reducible repeat (first | apply Kd.R_alloc | apply Kd.R_drewN | apply Kd.R_drew)); exact Kd.R_mono (rf (Kd.R_types HO774.out BK794.out (by decide))) (fun _ hk => ⟨hk.1.1.1, ⟨hk.1.1.2, hk.1.2⟩⟩)⟩
         have n1 : Aside0 (Kd.R k26 26 ((w32.setCell ⟨gb794, 0, none⟩ (.string t789)).setCell ⟨gb794, 1, none⟩ (.slice Ao36 t790.length co36)) w.heap.size (fun k_ => some k_ ≠ (.slice Ao18 t772.length co18 : Value).ownBlock ∧ some k_ ≠ (.slice Ao27 t783.length co27 : Value).ownBlock ∧ some k_ ≠ (.slice Ao36 t790.length co36 : Value).ownBlock) (.slice Ao23 t778.length co23) t778) := ⟨by (with_reducible repeat (first | apply Kd.R_alloc | apply Kd.R_drewN | apply Kd.R_drew)); exact Kd.R_mono (rf (Kd.R_types HO780.out BK794.out (by decide))) (fun _ hk => ⟨hk.1.1.1, ⟨hk.1.1.2, hk.1.2⟩⟩)⟩
         have n2 : Aside0 (Kd.R k26 26 ((w32.setCell ⟨gb794, 0, none⟩ (.string t789)).setCell ⟨gb794, 1, none⟩ (.slice Ao36 t790.length co36)) w.heap.size (fun k_ => some k_ ≠ (.slice Ao18 t772.length co18 : Value).ownBlock ∧ some k_ ≠ (.slice Ao23 t778.length co23 : Value).ownBlock ∧ some k_ ≠ (.slice Ao36 t790.length co36 : Value).ownBlock) (.slice Ao27 t783.length co27) t783) := ⟨by (with_reducible repeat (first | apply Kd.R_alloc | apply Kd.R_drewN | apply Kd.R_drew)); exact Kd.R_mono (rf (Kd.R_types HO785.out BK794.out (by decide))) (fun _ hk => ⟨hk.1.1.1.2, ⟨hk.1.1.2, hk.1.2⟩⟩)⟩
         have n3 : Aside0 (Kd.R k26 26 ((w32.setCell ⟨gb794, 0, none⟩ (.string t789)).setCell ⟨gb794, 1, none⟩ (.slice Ao36 t790.length co36)) w.heap.size (fun k_ => some k_ ≠ (.slice Ao18 t772.length co18 : Value).ownBlock ∧ some k_ ≠ (.slice Ao23 t778.length co23 : Value).ownBlock ∧ some k_ ≠ (.slice Ao27 t783.length co27 : Value).ownBlock) (.slice Ao36 t790.length co36) t790) := ⟨by (with_reducible repeat (first | apply Kd.R_alloc | apply Kd.R_drewN | apply Kd.R_drew)); exact Kd.R_mono (rf (Kd.R_types HO792.out BK794.out (by decide))) (fun _ hk => ⟨hk.1.1.1.2, ⟨hk.1.1.2, hk.1.2⟩⟩)⟩
         have n4 : Aside0 (((w32.setCell ⟨gb794, 0, none⟩ (.string t789)).setCell ⟨gb794, 1, none⟩ (.slice Ao36 t790.length co36)).heap[gb776]? = some (.cells #[.string t771, .slice Ao18 t772.length co18] 39 (0, 0))) := ⟨bk BK776⟩
         have n5 : Aside0 (((w32.setCell ⟨gb794, 0, none⟩ (.string t789)).setCell ⟨gb794, 1, none⟩ (.slice Ao36 t790.length co36)).heap[gb781]? = some (.cells #[.string t777, .slice Ao23 t778.length co23] 39 (0, 0))) := ⟨bk BK781⟩
         have n6 : Aside0 (((w32.setCell ⟨gb794, 0, none⟩ (.string t789)).setCell ⟨gb794, 1, none⟩ (.slice Ao36 t790.length co36)).heap[gb794]? = some (.cells #[.string t789, .slice Ao36 t790.length co36] 39 (0, 0))) := ⟨bp BK794⟩
         have n7 : Aside0 (Below w.heap.size w ((w32.setCell ⟨gb794, 0, none⟩ (.string t789)).setCell ⟨gb794, 1, none⟩ (.slice Ao36 t790.length co36))) := ⟨bq⟩
         (try clear HO774)
         (try clear HO780)
         (try clear HO785)
         (try clear HO792)
         (try clear BK776)
         (try clear BK781)
         (try clear BK794)
         (try clear HB)
         generalize ((w32.setCell ⟨gb794, 0, none⟩ (.string t789)).setCell ⟨gb794, 1, none⟩ (.slice Ao36 t790.length co36)) = w95 at n0 n1 n2 n3 n4 n5 n6 n7 ⊢
         have HO774 := n0
         have HO780 := n1
         have HO785 := n2
         have HO792 := n3
         have BK776 := n4
         have BK781 := n5
         have BK794 := n6
         have HB := n7
         clear n0 n1 n2 n3 n4 n5 n6 n7
         have _ := ra (Kd.R_drew HO774.out)
         have _ := ra (Kd.R_drew HO780.out)
         have _ := ra (Kd.R_drew HO785.out)
         have _ := ra (Kd.R_drew HO792.out)
         have _ := ra (blk_drew BK776.out)
         have _ := ra (blk_drew BK781.out)
         have _ := ra (blk_drew BK794.out)
         have _ := ra (below_drew1 HB.out)
         clear HO774 HO780 HO785 HO792 BK776 BK781 BK794 HB
         rename_i HO774 HO780 HO785 HO792 BK776 BK781 BK794 HB
         refine start_ (n := 31) (S := fun w' => w'.cell? ⟨gb781, 0, none⟩ = some (.string t777) ∧ w'.cell? ⟨gb781, 1, none⟩ = some (.slice Ao23 t778.length co23)) (ds := []) (bl 31 0) (by kernel_rfl) rfl rfl ⟨(blk_cell BK781.out 0).trans rfl, (blk_cell BK781.out 1).trans rfl⟩ (fun hHeld => ?_); refine with_tabW laws_FnCut.tab10 laws_FnCut.bits10 (fun HT_ HW_ => ?_)
         generalize w95.drew = w96 at HO774 HO780 HO785 HO792 BK776 BK781 BK794 HB hHeld ⊢
         refine pu 0 44 (bl 31 1) ?_
         refine pu 1 45 (bl 31 3) ?_
         refine pu 2 46 (bl 31 7) ?_
         refine pv 3 47 (bl 31 15) ?_
         refine pv 4 48 (bl 31 31) ?_
         refine pv 5 49 (bl 31 63) ?_
         refine pv 6 50 (bl 31 127) ?_
         refine pu 7 51 (bl 31 255) ?_
         refine pu 8 52 (bl 31 511) ?_
         refine pu 10 54 (bl 31 1535) ?_
         refine tk 9 53 (bl 31 2047) ?_ hHeld
         refine tk 12 56 (bl 31 6143) ?_ hHeld
         refine oe 11 55 (bl 31 8191) (fun K hK => ?_)
         refine gs Try.func36 #[.agg #[.string t777, .slice Ao23 t778.length co23], .int .i64 t775] ?_
         with_reducible refine (impl_ProbeCut.calls kj2 t777 _ _ t778 t775 t810 t811 _ ?side1 ?side2 A73.out).mono ?_
         (case side1 => exact sr HO780)
         (case side2 => exact (Kd.R_reads' HO780.out).2.1)
         rintro e w97 ⟨v812, rfl, ho0, hb⟩
         refine ⟨_, rfl, ?_⟩
         have _ := ra (Kd.R_elder' (rq HO774) (Kd.R_base ho0) hb)
         have _ := ra (Kd.R_elder' (rq HO780) (Kd.R_base ho0) hb)
         have _ := ra (Kd.R_elder' (rq HO785) (Kd.R_base ho0) hb)
         have _ := ra (Kd.R_elder' (rq HO792) (Kd.R_base ho0) hb)
         have _ := ra (Kd.R_lower (Kd.R_new' (Kd.R_new' (Kd.R_new' (Kd.R_new' ho0 (Kd.R_lt (rq HO774))) (Kd.R_lt (rq HO780))) (Kd.R_lt (rq HO785))) (Kd.R_lt (rq HO792))) (below_size bq))
         have _ := bb (bk BK776) hb
         have _ := bb (bk BK781) hb
         have _ := bb (bk BK794) hb
         have _ := bs hb
         clear HO774 HO780 HO785 HO792 BK776 BK781 BK794 HB
         rename_i HO774 HO780 HO785 HO792 HO813 BK776 BK781 BK794 HB
         (try clear hb)
         (try clear hb2)
         (try clear hk)
         (try clear hi)
         (try clear ho0)
         obtain ⟨Ao98, co98, eo98⟩ := Kd.R_slice HO813.out
         (first | subst eo98 | (injection eo98 with f1_ f2_ f3_; have f4_ := f1_.symm; have f5_ := f3_.symm; clear f1_ f2_ f3_; subst f4_; subst f5_))
         refine hK.out _ _ ⟨(blk_cell BK781.out 0).trans rfl, (blk_cell BK781.out 1).trans rfl⟩ (fun hHeld => ?_)
         clear hK K
         refine nm 55 ?_
         refine oe 13 57 (bl 31 16383) (fun K hK => ?_)
         refine gs Try.func42 #[.agg #[.string t810, .slice Ao98 t811.length co98], .agg #[.string t777, .slice Ao23 t778.length co23]] ?_
         with_reducible refine (laws_wTube.calls kj2 t810 _ _ t811 t777 _ _ t778 false _ ?side1 ?side2 ?side3 ?side4 A74.out).mono ?_
         (case side1 => exact sr HO813)
         (case side2 => exact (Kd.R_reads' HO813.out).2.1)
         (case side3 => exact sr HO780)
         (case side4 => exact (Kd.R_reads' HO780.out).2.1)
         rintro e w99 ⟨rfl, hb⟩
         refine ⟨_, rfl, ?_⟩
         have _ := ra (Kd.R_below (rq HO774) hb)
         have _ := ra (Kd.R_below (rq HO780) hb)
         have _ := ra (Kd.R_below (rq HO785) hb)
         have _ := ra (Kd.R_below (rq HO792) hb)
         have _ := ra (Kd.R_below (rq HO813) hb)
         have _ := bb (bk BK776) hb
         have _ := bb (bk BK781) hb
         have _ := bb (bk BK794) hb
         have _ := bs hb
         clear HO774 HO780 HO785 HO792 HO813 BK776 BK781 BK794 HB
         rename_i HO774 HO780 HO785 HO792 HO813 BK776 BK781 BK794 HB
         (try clear hb)
         (try clear hb2)
         (try clear hk)
         (try clear hi)
         refine hK.out _ _ ⟨(blk_cell BK781.out 0).trans rfl, (blk_cell BK781.out 1).trans rfl⟩ (fun hHeld => ?_)
         clear hK K
         refine nm 57 ?_
         refine pu 14 58 (bl 31 32767) ?_
         refine pu 15 59 (bl 31 65535) ?_
         refine pu 16 60 (bl 31 131071) ?_
         refine pv 17 61 (bl 31 262143) ?_
         refine pv 18 62 (bl 31 524287) ?_
         refine pv 19 63 (bl 31 1048575) ?_
         refine pv 20 64 (bl 31 2097151) ?_
         refine pv 21 65 (bl 31 4194303) ?_
         refine pv 22 66 (bl 31 8388607) ?_
         refine pv 23 67 (bl 31 16777215) ?_
         refine pv 24 68 (bl 31 33554431) ?_
         refine pv 25 69 (bl 31 67108863) ?_
         refine pv 26 70 (bl 31 134217727) ?_
         refine pv 27 71 (bl 31 268435455) ?_
         refine pv 28 72 (bl 31 536870911) ?_
         refine pv 29 73 (bl 31 1073741823) ?_
         refine pu 30 74 (bl 31 2147483647) ?_
         refine done_ (done_of HT_.out (by kernel_rfl)) ?_
         try go_wp2
         go_meet
         case rel => exact ⟨_, (true), rs, H', ⟨by have := HJ2.out; first | omega | exact Nat.le_refl _⟩, ⟨by (with_reducible repeat (first | apply Kd.R_alloc | apply Kd.R_drewN | apply Kd.R_drew)); exact Kd.R_mono HO774.out (fun _ hk => ⟨hk.1.1, hk.1.2.2⟩)⟩, ⟨by (with_reducible repeat (first | apply Kd.R_alloc | apply Kd.R_drewN | apply Kd.R_drew)); exact Kd.R_mono HO780.out (fun _ hk => ⟨hk.1.1, hk.1.2.2⟩)⟩, ⟨by (with_reducible repeat (first | apply Kd.R_alloc | apply Kd.R_drewN | apply Kd.R_drew)); exact Kd.R_mono HO792.out (fun _ hk => ⟨hk.1.1, hk.1.2.1⟩)⟩, ⟨bk BK776⟩, ⟨bk BK781⟩, ⟨bk BK794⟩, ⟨bq⟩⟩
      case rest =>
       clear HC14
       try clear c4
       try clear c42
       try clear c75
       obtain ⟨kq, x74_13, rfl, HA, HJ13, HO_777001, HO_782001, HO_795001, BK776, BK781, BK794, HB⟩ := hcut
       cases kq with
       | zero => exact absurd HA.out (by simp [laws_FnCut.j1])
       | succ kj13 =>
        have H := HA.out
        clear HA
        simp only [laws_FnCut.j1] at H
        by_cases c100 : x74_13 = true
        ·subst c100
         have H1 : (some false) = some true := by rw [if_pos rfl] at H; exact H
         clear H
         have H := H1
         exact absurd (Option.some.inj H) (by decide)
        ·replace c100 := Bool.eq_false_iff.mpr c100
         subst c100
         have H1 : (laws_FnCut.l0 kj13 t775 0 t771 t772 t777 t778 t789 t790) = some true := by rw [if_neg (show ¬ (false = true) by decide)] at H; exact H
         clear H
         have H := H1
         clear H1
         have H' := Aside0.mk H
         clear H
         go_wp2
         go_loopg [10] kj13 (fun kq v10 w' => ∃ (x10_3 : Int), v10 = .int .i64 x10_3 ∧ Aside0 (laws_FnCut.l0 kq t775 x10_3 t771 t772 t777 t778 t789 t790 = some true) ∧ Aside0 (kq ≤ kj13) ∧ Aside0 (Kd.R k26 26 w' w.heap.size (fun k_ => some k_ ≠ ((.slice Ao23 t778.length co23) : Value).ownBlock ∧ some k_ ≠ ((.slice Ao36 t790.length co36) : Value).ownBlock) (.slice Ao18 t772.length co18) t772) ∧ Aside0 (Kd.R k26 26 w' w.heap.size (fun k_ => some k_ ≠ ((.slice Ao18 t772.length co18) : Value).ownBlock ∧ some k_ ≠ ((.slice Ao36 t790.length co36) : Value).ownBlock) (.slice Ao23 t778.length co23) t778) ∧ Aside0 (Kd.R k26 26 w' w.heap.size (fun k_ => some k_ ≠ ((.slice Ao18 t772.length co18) : Value).ownBlock ∧ some k_ ≠ ((.slice Ao23 t778.length co23) : Value).ownBlock) (.slice Ao36 t790.length co36) t790) ∧ Aside0 (w'.heap[gb776]? = some (.cells #[.string t771, (.slice Ao18 t772.length co18)] 39 (0, 0))) ∧ Aside0 (w'.heap[gb781]? = some (.cells #[.string t777, (.slice Ao23 t778.length co23)] 39 (0, 0))) ∧ Aside0 (w'.heap[gb794]? = some (.cells #[.string t789, (.slice Ao36 t790.length co36)] 39 (0, 0))) ∧ Aside0 (Below w.heap.size w w'))
         case atStart => exact ⟨(0), rs, H', ⟨Nat.le_refl _⟩, ⟨rq HO_777001⟩, ⟨rq HO_782001⟩, ⟨rq HO_795001⟩, ⟨bk BK776⟩, ⟨bk BK781⟩, ⟨bk BK794⟩, ⟨bq⟩⟩
         case round =>
          clear H'
          try clear c1
          try clear c4
          try clear c10
          try clear c42
          try clear c75
          try clear c100
          obtain ⟨x10_3, rfl, HA, HK3, HO_777001, HO_782001, HO_795001, BK776, BK781, BK794, HB⟩ := hrel
          cases gk with
          | zero => exact absurd HA.out (by simp [laws_FnCut.l0])
          | succ k3 =>
           have H := HA.out
           clear HA
           simp only [laws_FnCut.l0] at H
           by_cases c101 : x10_3 < 12
           ·rw [if_pos c101] at H
            have c101b0 : decide (x10_3 < 12) = true := decide_eq_true c101
            clear c101
            by_cases c102 : t775 ≥ 0
            ·rw [if_pos c102] at H
             have c102b0 : decide (0 ≤ t775) = true := decide_eq_true c102
             clear c102
             by_cases c103 : t775 ≤ 10000
             ·rw [if_pos c103] at H
              have c103b0 : decide (t775 ≤ 10000) = true := decide_eq_true c103
              clear c103
              obtain ⟨t824, A104, H⟩ := bo H
              by_cases c105 : t824 = true
              ·subst c105
               replace H := it H rfl
               obtain ⟨t825, A106, H⟩ := bo H
               obtain ⟨t826, A107, H⟩ := bo H
               by_cases c108 : (t825 != t826) = true
               ·rw [if_pos c108] at H
                exact absurd (Option.some.inj H) (by decide)
               ·rw [if_neg c108] at H
                have c108b0 : (t825 != t826) = false := by simpa using c108
                (try (have c108b1 : decide (t825 = t826) = true := by simpa using c108))
                (try (have c108b2 : (t825 == t826) = true := by simpa using c108))
                clear c108
                by_cases c113 : t775 > 0
                ·rw [if_pos c113] at H
                 have c113b0 : decide (0 < t775) = true := decide_eq_true c113
                 clear c113
                 obtain ⟨t827, A114, H⟩ := bo H
                 by_cases c115 : t827 = true
                 ·subst c115
                  have H1 : (some false) = some true := by rw [if_pos rfl] at H; exact H
                  clear H
                  have H := H1
                  exact absurd (Option.some.inj H) (by decide)
                 ·replace c115 := Bool.eq_false_iff.mpr c115
                  subst c115
                  have H1 : (laws_FnCut.l0 k3 t775 (wrap64 (x10_3 + 1)) t771 t772 t777 t778 t789 t790) = some true := by rw [if_neg (show ¬ (false = true) by decide)] at H; exact H
                  clear H
                  have H := H1
                  clear H1
                  have H' := Aside0.mk H
                  clear H
                  try go_wp2
                  have _ := ra (Kd.R_drew HO_777001.out)
                  have _ := ra (Kd.R_drew HO_782001.out)
                  have _ := ra (Kd.R_drew HO_795001.out)
                  have _ := ra (blk_drew BK776.out)
                  have _ := ra (blk_drew BK781.out)
                  have _ := ra (blk_drew BK794.out)
                  have _ := ra (below_drew1 HB.out)
                  clear HO_777001 HO_782001 HO_795001 BK776 BK781 BK794 HB
                  rename_i HO_777001 HO_782001 HO_795001 BK776 BK781 BK794 HB
                  refine start_ (n := 42) (S := fun w' => w'.cell? ⟨gb794, 0, none⟩ = some (.string t789) ∧ w'.cell? ⟨gb794, 1, none⟩ = some (.slice Ao36 t790.length co36) ∧ w'.cell? ⟨gb781, 0, none⟩ = some (.string t777) ∧ w'.cell? ⟨gb781, 1, none⟩ = some (.slice Ao23 t778.length co23) ∧ w'.cell? ⟨gb776, 0, none⟩ = some (.string t771) ∧ w'.cell? ⟨gb776, 1, none⟩ = some (.slice Ao18 t772.length co18)) (ds := []) (bl 42 0) (by kernel_rfl) rfl rfl ⟨(blk_cell BK794.out 0).trans rfl, (blk_cell BK794.out 1).trans rfl, (blk_cell BK781.out 0).trans rfl, (blk_cell BK781.out 1).trans rfl, (blk_cell BK776.out 0).trans rfl, (blk_cell BK776.out 1).trans rfl⟩ (fun hHeld => ?_); refine with_tabW laws_FnCut.tab15 laws_FnCut.bits15 (fun HT_ HW_ => ?_)
                  generalize wr.drew = w121 at HO_777001 HO_782001 HO_795001 BK776 BK781 BK794 HB hHeld ⊢
                  refine pu 0 79 (bl 42 1) ?_
                  refine pu 1 80 (bl 42 3) ?_
                  refine pu 2 81 (bl 42 7) ?_
                  refine pu 3 82 (bl 42 15) ?_
                  refine pu 4 83 (bl 42 31) ?_
                  refine pu 5 84 (bl 42 63) ?_
                  refine pu 6 85 (bl 42 127) ?_
                  refine tk 7 86 (bl 42 255) ?_ hHeld
                  refine oe 8 87 (bl 42 511) (fun K hK => ?_)
                  refine gs Try.func21 #[.agg #[.string t789, .slice Ao36 t790.length co36]] ?_
                  with_reducible refine (spec_ProbeTubeOk.calls k3 t789 _ _ t790 true _ ?side1 ?side2 A104.out).mono ?_
                  (case side1 => exact sr HO_795001)
                  (case side2 => exact (Kd.R_reads' HO_795001.out).2.1)
                  rintro e w122 ⟨rfl, hb⟩
                  refine ⟨_, rfl, ?_⟩
                  have _ := ra (Kd.R_below (rq HO_777001) hb)
                  have _ := ra (Kd.R_below (rq HO_782001) hb)
                  have _ := ra (Kd.R_below (rq HO_795001) hb)
                  have _ := bb (bk BK776) hb
                  have _ := bb (bk BK781) hb
                  have _ := bb (bk BK794) hb
                  have _ := bs hb
                  clear HO_777001 HO_782001 HO_795001 BK776 BK781 BK794 HB
                  rename_i HO_777001 HO_782001 HO_795001 BK776 BK781 BK794 HB
                  (try clear hb)
                  (try clear hb2)
                  (try clear hk)
                  (try clear hi)
                  refine hK.out _ _ ⟨(blk_cell BK794.out 0).trans rfl, (blk_cell BK794.out 1).trans rfl, (blk_cell BK781.out 0).trans rfl, (blk_cell BK781.out 1).trans rfl, (blk_cell BK776.out 0).trans rfl, (blk_cell BK776.out 1).trans rfl⟩ (fun hHeld => ?_)
                  clear hK K
                  refine nm 87 ?_
                  refine pu 9 88 (bl 42 1023) ?_
                  refine pu 10 89 (bl 42 2047) ?_
                  refine pu 13 92 (bl 42 10239) ?_
                  refine pu 14 93 (bl 42 26623) ?_
                  refine pu 15 94 (bl 42 59391) ?_
                  refine pu 16 95 (bl 42 124927) ?_
                  refine pu 20 99 (bl 42 1173503) ?_
                  refine pu 21 100 (bl 42 3270655) ?_
                  refine pu 22 101 (bl 42 7464959) ?_
                  refine pu 23 102 (bl 42 15853567) ?_
                  refine tk 11 90 (bl 42 15855615) ?_ hHeld
                  refine tk 12 91 (bl 42 15859711) ?_ hHeld
                  refine tk 18 97 (bl 42 16121855) ?_ hHeld
                  refine tk 19 98 (bl 42 16646143) ?_ hHeld
                  refine oe 17 96 (bl 42 16777215) (fun K hK => ?_)
                  refine gs Try.func43 #[.agg #[.string t777, .slice Ao23 t778.length co23], .agg #[.string t789, .slice Ao36 t790.length co36], .int .i64 (wrap64 (t775 + (wrap64 (5 * x10_3))))] ?_
                  with_reducible refine (laws_wNearAt.calls k3 t777 _ _ t778 t789 _ _ t790 (wrap64 (t775 + (wrap64 (5 * x10_3)))) t825 _ ?side1 ?side2 ?side3 ?side4 A106.out).mono ?_
                  (case side1 => exact sr HO_782001)
                  (case side2 => exact (Kd.R_reads' HO_782001.out).2.1)
                  (case side3 => exact sr HO_795001)
                  (case side4 => exact (Kd.R_reads' HO_795001.out).2.1)
                  rintro e w123 ⟨rfl, hb⟩
                  refine ⟨_, rfl, ?_⟩
                  have _ := ra (Kd.R_below (rq HO_777001) hb)
                  have _ := ra (Kd.R_below (rq HO_782001) hb)
                  have _ := ra (Kd.R_below (rq HO_795001) hb)
                  have _ := bb (bk BK776) hb
                  have _ := bb (bk BK781) hb
                  have _ := bb (bk BK794) hb
                  have _ := bs hb
                  clear HO_777001 HO_782001 HO_795001 BK776 BK781 BK794 HB
                  rename_i HO_777001 HO_782001 HO_795001 BK776 BK781 BK794 HB
                  (try clear hb)
                  (try clear hb2)
                  (try clear hk)
                  (try clear hi)
                  refine hK.out _ _ ⟨(blk_cell BK794.out 0).trans rfl, (blk_cell BK794.out 1).trans rfl, (blk_cell BK781.out 0).trans rfl, (blk_cell BK781.out 1).trans rfl, (blk_cell BK776.out 0).trans rfl, (blk_cell BK776.out 1).trans rfl⟩ (fun hHeld => ?_)
                  clear hK K
                  refine nm 96 ?_
                  refine oe 24 103 (bl 42 33554431) (fun K hK => ?_)
                  refine gs Try.func43 #[.agg #[.string t771, .slice Ao18 t772.length co18], .agg #[.string t789, .slice Ao36 t790.length co36], .int .i64 (wrap64 (t775 + (wrap64 (5 * x10_3))))] ?_
                  with_reducible refine (laws_wNearAt.calls k3 t771 _ _ t772 t789 _ _ t790 (wrap64 (t775 + (wrap64 (5 * x10_3)))) t826 _ ?side1 ?side2 ?side3 ?side4 A107.out).mono ?_
                  (case side1 => exact sr HO_777001)
                  (case side2 => exact (Kd.R_reads' HO_777001.out).2.1)
                  (case side3 => exact sr HO_795001)
                  (case side4 => exact (Kd.R_reads' HO_795001.out).2.1)
                  rintro e w124 ⟨rfl, hb⟩
                  refine ⟨_, rfl, ?_⟩
                  have _ := ra (Kd.R_below (rq HO_777001) hb)
                  have _ := ra (Kd.R_below (rq HO_782001) hb)
                  have _ := ra (Kd.R_below (rq HO_795001) hb)
                  have _ := bb (bk BK776) hb
                  have _ := bb (bk BK781) hb
                  have _ := bb (bk BK794) hb
                  have _ := bs hb
                  clear HO_777001 HO_782001 HO_795001 BK776 BK781 BK794 HB
                  rename_i HO_777001 HO_782001 HO_795001 BK776 BK781 BK794 HB
                  (try clear hb)
                  (try clear hb2)
                  (try clear hk)
                  (try clear hi)
                  refine hK.out _ _ ⟨(blk_cell BK794.out 0).trans rfl, (blk_cell BK794.out 1).trans rfl, (blk_cell BK781.out 0).trans rfl, (blk_cell BK781.out 1).trans rfl, (blk_cell BK776.out 0).trans rfl, (blk_cell BK776.out 1).trans rfl⟩ (fun hHeld => ?_)
                  clear hK K
                  refine nm 103 ?_
                  refine pu 25 104 (bl 42 67108863) ?_
                  refine pu 26 105 (bl 42 134217727) ?_
                  refine pu 27 106 (bl 42 268435455) ?_
                  refine pu 28 107 (bl 42 536870911) ?_
                  refine pu 29 108 (bl 42 1073741823) ?_
                  refine pu 30 109 (bl 42 2147483647) ?_
                  refine pu 31 110 (bl 42 4294967295) ?_
                  refine pu 32 111 (bl 42 8589934591) ?_
                  refine pu 33 112 (bl 42 17179869183) ?_
                  refine pu 34 113 (bl 42 34359738367) ?_
                  refine pu 37 116 (bl 42 171798691839) ?_
                  refine pu 38 117 (bl 42 446676598783) ?_
                  refine tk 35 114 (bl 42 481036337151) ?_ hHeld
                  refine tk 36 115 (bl 42 549755813887) ?_ hHeld
                  refine oe 39 118 (bl 42 1099511627775) (fun K hK => ?_)
                  refine gs Try.func43 #[.agg #[.string t777, .slice Ao23 t778.length co23], .agg #[.string t789, .slice Ao36 t790.length co36], .int .i64 (wrap64 (t775 - 1))] ?_
                  with_reducible refine (laws_wNearAt.calls k3 t777 _ _ t778 t789 _ _ t790 (wrap64 (t775 - 1)) false _ ?side1 ?side2 ?side3 ?side4 A114.out).mono ?_
                  (case side1 => exact sr HO_782001)
                  (case side2 => exact (Kd.R_reads' HO_782001.out).2.1)
                  (case side3 => exact sr HO_795001)
                  (case side4 => exact (Kd.R_reads' HO_795001.out).2.1)
                  rintro e w125 ⟨rfl, hb⟩
                  refine ⟨_, rfl, ?_⟩
                  have _ := ra (Kd.R_below (rq HO_777001) hb)
                  have _ := ra (Kd.R_below (rq HO_782001) hb)
                  have _ := ra (Kd.R_below (rq HO_795001) hb)
                  have _ := bb (bk BK776) hb
                  have _ := bb (bk BK781) hb
                  have _ := bb (bk BK794) hb
                  have _ := bs hb
                  clear HO_777001 HO_782001 HO_795001 BK776 BK781 BK794 HB
                  rename_i HO_777001 HO_782001 HO_795001 BK776 BK781 BK794 HB
                  (try clear hb)
                  (try clear hb2)
                  (try clear hk)
                  (try clear hi)
                  refine hK.out _ _ ⟨(blk_cell BK794.out 0).trans rfl, (blk_cell BK794.out 1).trans rfl, (blk_cell BK781.out 0).trans rfl, (blk_cell BK781.out 1).trans rfl, (blk_cell BK776.out 0).trans rfl, (blk_cell BK776.out 1).trans rfl⟩ (fun hHeld => ?_)
                  clear hK K
                  refine nm 118 ?_
                  refine pu 40 119 (bl 42 2199023255551) ?_
                  refine pu 41 120 (bl 42 4398046511103) ?_
                  refine done_ (done_of HT_.out (by kernel_rfl)) ?_
                  try go_wp2
                  go_roundg k3
                  case measure => have := HJ2.out; have := HJ13.out; have := HK3.out; omega
                  case rel => exact ⟨(wrap64 (x10_3 + 1)), rs, H', ⟨by have := HJ2.out; have := HJ13.out; have := HK3.out; omega⟩, ⟨rq HO_777001⟩, ⟨rq HO_782001⟩, ⟨rq HO_795001⟩, ⟨bk BK776⟩, ⟨bk BK781⟩, ⟨bk BK794⟩, ⟨bq⟩⟩
                ·rw [if_neg c113] at H
                 have c113b0 : decide (0 < t775) = false := decide_eq_false c113
                 clear c113
                 have H' := Aside0.mk H
                 clear H
                 try go_wp2
                 have _ := ra (Kd.R_drew HO_777001.out)
                 have _ := ra (Kd.R_drew HO_782001.out)
                 have _ := ra (Kd.R_drew HO_795001.out)
                 have _ := ra (blk_drew BK776.out)
                 have _ := ra (blk_drew BK781.out)
                 have _ := ra (blk_drew BK794.out)
                 have _ := ra (below_drew1 HB.out)
                 clear HO_777001 HO_782001 HO_795001 BK776 BK781 BK794 HB
                 rename_i HO_777001 HO_782001 HO_795001 BK776 BK781 BK794 HB
                 refine start_ (n := 42) (S := fun w' => w'.cell? ⟨gb794, 0, none⟩ = some (.string t789) ∧ w'.cell? ⟨gb794, 1, none⟩ = some (.slice Ao36 t790.length co36) ∧ w'.cell? ⟨gb781, 0, none⟩ = some (.string t777) ∧ w'.cell? ⟨gb781, 1, none⟩ = some (.slice Ao23 t778.length co23) ∧ w'.cell? ⟨gb776, 0, none⟩ = some (.string t771) ∧ w'.cell? ⟨gb776, 1, none⟩ = some (.slice Ao18 t772.length co18)) (ds := []) (bl 42 0) (by kernel_rfl) rfl rfl ⟨(blk_cell BK794.out 0).trans rfl, (blk_cell BK794.out 1).trans rfl, (blk_cell BK781.out 0).trans rfl, (blk_cell BK781.out 1).trans rfl, (blk_cell BK776.out 0).trans rfl, (blk_cell BK776.out 1).trans rfl⟩ (fun hHeld => ?_); refine with_tabW laws_FnCut.tab15 laws_FnCut.bits15 (fun HT_ HW_ => ?_)
                 generalize wr.drew = w126 at HO_777001 HO_782001 HO_795001 BK776 BK781 BK794 HB hHeld ⊢
                 refine pu 0 79 (bl 42 1) ?_
                 refine pu 1 80 (bl 42 3) ?_
                 refine pu 2 81 (bl 42 7) ?_
                 refine pu 3 82 (bl 42 15) ?_
                 refine pu 4 83 (bl 42 31) ?_
                 refine pu 5 84 (bl 42 63) ?_
                 refine pu 6 85 (bl 42 127) ?_
                 refine tk 7 86 (bl 42 255) ?_ hHeld
                 refine oe 8 87 (bl 42 511) (fun K hK => ?_)
                 refine gs Try.func21 #[.agg #[.string t789, .slice Ao36 t790.length co36]] ?_
                 with_reducible refine (spec_ProbeTubeOk.calls k3 t789 _ _ t790 true _ ?side1 ?side2 A104.out).mono ?_
                 (case side1 => exact sr HO_795001)
                 (case side2 => exact (Kd.R_reads' HO_795001.out).2.1)
                 rintro e w127 ⟨rfl, hb⟩
                 refine ⟨_, rfl, ?_⟩
                 have _ := ra (Kd.R_below (rq HO_777001) hb)
                 have _ := ra (Kd.R_below (rq HO_782001) hb)
                 have _ := ra (Kd.R_below (rq HO_795001) hb)
                 have _ := bb (bk BK776) hb
                 have _ := bb (bk BK781) hb
                 have _ := bb (bk BK794) hb
                 have _ := bs hb
                 clear HO_777001 HO_782001 HO_795001 BK776 BK781 BK794 HB
                 rename_i HO_777001 HO_782001 HO_795001 BK776 BK781 BK794 HB
                 (try clear hb)
                 (try clear hb2)
                 (try clear hk)
                 (try clear hi)
                 refine hK.out _ _ ⟨(blk_cell BK794.out 0).trans rfl, (blk_cell BK794.out 1).trans rfl, (blk_cell BK781.out 0).trans rfl, (blk_cell BK781.out 1).trans rfl, (blk_cell BK776.out 0).trans rfl, (blk_cell BK776.out 1).trans rfl⟩ (fun hHeld => ?_)
                 clear hK K
                 refine nm 87 ?_
                 refine pu 9 88 (bl 42 1023) ?_
                 refine pu 10 89 (bl 42 2047) ?_
                 refine pu 13 92 (bl 42 10239) ?_
                 refine pu 14 93 (bl 42 26623) ?_
                 refine pu 15 94 (bl 42 59391) ?_
                 refine pu 16 95 (bl 42 124927) ?_
                 refine pu 20 99 (bl 42 1173503) ?_
                 refine pu 21 100 (bl 42 3270655) ?_
                 refine pu 22 101 (bl 42 7464959) ?_
                 refine pu 23 102 (bl 42 15853567) ?_
                 refine tk 11 90 (bl 42 15855615) ?_ hHeld
                 refine tk 12 91 (bl 42 15859711) ?_ hHeld
                 refine tk 18 97 (bl 42 16121855) ?_ hHeld
                 refine tk 19 98 (bl 42 16646143) ?_ hHeld
                 refine oe 17 96 (bl 42 16777215) (fun K hK => ?_)
                 refine gs Try.func43 #[.agg #[.string t777, .slice Ao23 t778.length co23], .agg #[.string t789, .slice Ao36 t790.length co36], .int .i64 (wrap64 (t775 + (wrap64 (5 * x10_3))))] ?_
                 with_reducible refine (laws_wNearAt.calls k3 t777 _ _ t778 t789 _ _ t790 (wrap64 (t775 + (wrap64 (5 * x10_3)))) t825 _ ?side1 ?side2 ?side3 ?side4 A106.out).mono ?_
                 (case side1 => exact sr HO_782001)
                 (case side2 => exact (Kd.R_reads' HO_782001.out).2.1)
                 (case side3 => exact sr HO_795001)
                 (case side4 => exact (Kd.R_reads' HO_795001.out).2.1)
                 rintro e w128 ⟨rfl, hb⟩
                 refine ⟨_, rfl, ?_⟩
                 have _ := ra (Kd.R_below (rq HO_777001) hb)
                 have _ := ra (Kd.R_below (rq HO_782001) hb)
                 have _ := ra (Kd.R_below (rq HO_795001) hb)
                 have _ := bb (bk BK776) hb
                 have _ := bb (bk BK781) hb
                 have _ := bb (bk BK794) hb
                 have _ := bs hb
                 clear HO_777001 HO_782001 HO_795001 BK776 BK781 BK794 HB
                 rename_i HO_777001 HO_782001 HO_795001 BK776 BK781 BK794 HB
                 (try clear hb)
                 (try clear hb2)
                 (try clear hk)
                 (try clear hi)
                 refine hK.out _ _ ⟨(blk_cell BK794.out 0).trans rfl, (blk_cell BK794.out 1).trans rfl, (blk_cell BK781.out 0).trans rfl, (blk_cell BK781.out 1).trans rfl, (blk_cell BK776.out 0).trans rfl, (blk_cell BK776.out 1).trans rfl⟩ (fun hHeld => ?_)
                 clear hK K
                 refine nm 96 ?_
                 refine oe 24 103 (bl 42 33554431) (fun K hK => ?_)
                 refine gs Try.func43 #[.agg #[.string t771, .slice Ao18 t772.length co18], .agg #[.string t789, .slice Ao36 t790.length co36], .int .i64 (wrap64 (t775 + (wrap64 (5 * x10_3))))] ?_
                 with_reducible refine (laws_wNearAt.calls k3 t771 _ _ t772 t789 _ _ t790 (wrap64 (t775 + (wrap64 (5 * x10_3)))) t826 _ ?side1 ?side2 ?side3 ?side4 A107.out).mono ?_
                 (case side1 => exact sr HO_777001)
                 (case side2 => exact (Kd.R_reads' HO_777001.out).2.1)
                 (case side3 => exact sr HO_795001)
                 (case side4 => exact (Kd.R_reads' HO_795001.out).2.1)
                 rintro e w129 ⟨rfl, hb⟩
                 refine ⟨_, rfl, ?_⟩
                 have _ := ra (Kd.R_below (rq HO_777001) hb)
                 have _ := ra (Kd.R_below (rq HO_782001) hb)
                 have _ := ra (Kd.R_below (rq HO_795001) hb)
                 have _ := bb (bk BK776) hb
                 have _ := bb (bk BK781) hb
                 have _ := bb (bk BK794) hb
                 have _ := bs hb
                 clear HO_777001 HO_782001 HO_795001 BK776 BK781 BK794 HB
                 rename_i HO_777001 HO_782001 HO_795001 BK776 BK781 BK794 HB
                 (try clear hb)
                 (try clear hb2)
                 (try clear hk)
                 (try clear hi)
                 refine hK.out _ _ ⟨(blk_cell BK794.out 0).trans rfl, (blk_cell BK794.out 1).trans rfl, (blk_cell BK781.out 0).trans rfl, (blk_cell BK781.out 1).trans rfl, (blk_cell BK776.out 0).trans rfl, (blk_cell BK776.out 1).trans rfl⟩ (fun hHeld => ?_)
                 clear hK K
                 refine nm 103 ?_
                 refine pu 25 104 (bl 42 67108863) ?_
                 refine pu 26 105 (bl 42 134217727) ?_
                 refine pu 27 106 (bl 42 268435455) ?_
                 refine pu 28 107 (bl 42 536870911) ?_
                 refine pu 29 108 (bl 42 1073741823) ?_
                 refine pu 30 109 (bl 42 2147483647) ?_
                 refine pv 31 110 (bl 42 4294967295) ?_
                 refine pv 32 111 (bl 42 8589934591) ?_
                 refine pu 33 112 (bl 42 17179869183) ?_
                 refine pu 34 113 (bl 42 34359738367) ?_
                 refine pv 35 114 (bl 42 68719476735) ?_
                 refine pv 36 115 (bl 42 137438953471) ?_
                 refine pv 37 116 (bl 42 274877906943) ?_
                 refine pv 38 117 (bl 42 549755813887) ?_
                 refine pv 39 118 (bl 42 1099511627775) ?_
                 refine pu 40 119 (bl 42 2199023255551) ?_
                 refine pu 41 120 (bl 42 4398046511103) ?_
                 refine done_ (done_of HT_.out (by kernel_rfl)) ?_
                 try go_wp2
                 go_roundg k3
                 case measure => have := HJ2.out; have := HJ13.out; have := HK3.out; omega
                 case rel => exact ⟨(wrap64 (x10_3 + 1)), rs, H', ⟨by have := HJ2.out; have := HJ13.out; have := HK3.out; omega⟩, ⟨rq HO_777001⟩, ⟨rq HO_782001⟩, ⟨rq HO_795001⟩, ⟨bk BK776⟩, ⟨bk BK781⟩, ⟨bk BK794⟩, ⟨bq⟩⟩
              ·replace c105 := Bool.eq_false_iff.mpr c105
               subst c105
               have H1 : (if t775 > 0 then ((laws_wNearAt.f k3 t777 t778 t789 t790 (wrap64 (t775 - 1))).bind fun t828 => (if t828 = true then (some false) else (laws_FnCut.l0 k3 t775 (wrap64 (x10_3 + 1)) t771 t772 t777 t778 t789 t790))) else (laws_FnCut.l0 k3 t775 (wrap64 (x10_3 + 1)) t771 t772 t777 t778 t789 t790)) = some true := by rw [if_neg (show ¬ (false = true) by decide)] at H; exact H
               clear H
               have H := H1
               clear H1
               by_cases c130 : t775 > 0
               ·rw [if_pos c130] at H
                have c130b0 : decide (0 < t775) = true := decide_eq_true c130
                clear c130
                obtain ⟨t828, A131, H⟩ := bo H
                by_cases c132 : t828 = true
                ·subst c132
                 have H1 : (some false) = some true := by rw [if_pos rfl] at H; exact H
                 clear H
                 have H := H1
                 exact absurd (Option.some.inj H) (by decide)
                ·replace c132 := Bool.eq_false_iff.mpr c132
                 subst c132
                 have H1 : (laws_FnCut.l0 k3 t775 (wrap64 (x10_3 + 1)) t771 t772 t777 t778 t789 t790) = some true := by rw [if_neg (show ¬ (false = true) by decide)] at H; exact H
                 clear H
                 have H := H1
                 clear H1
                 have H' := Aside0.mk H
                 clear H
                 try go_wp2
                 have _ := ra (Kd.R_drew HO_777001.out)
                 have _ := ra (Kd.R_drew HO_782001.out)
                 have _ := ra (Kd.R_drew HO_795001.out)
                 have _ := ra (blk_drew BK776.out)
                 have _ := ra (blk_drew BK781.out)
                 have _ := ra (blk_drew BK794.out)
                 have _ := ra (below_drew1 HB.out)
                 clear HO_777001 HO_782001 HO_795001 BK776 BK781 BK794 HB
                 rename_i HO_777001 HO_782001 HO_795001 BK776 BK781 BK794 HB
                 refine start_ (n := 42) (S := fun w' => w'.cell? ⟨gb794, 0, none⟩ = some (.string t789) ∧ w'.cell? ⟨gb794, 1, none⟩ = some (.slice Ao36 t790.length co36) ∧ w'.cell? ⟨gb781, 0, none⟩ = some (.string t777) ∧ w'.cell? ⟨gb781, 1, none⟩ = some (.slice Ao23 t778.length co23)) (ds := []) (bl 42 0) (by kernel_rfl) rfl rfl ⟨(blk_cell BK794.out 0).trans rfl, (blk_cell BK794.out 1).trans rfl, (blk_cell BK781.out 0).trans rfl, (blk_cell BK781.out 1).trans rfl⟩ (fun hHeld => ?_); refine with_tabW laws_FnCut.tab15 laws_FnCut.bits15 (fun HT_ HW_ => ?_)
                 generalize wr.drew = w136 at HO_777001 HO_782001 HO_795001 BK776 BK781 BK794 HB hHeld ⊢
                 refine pu 0 79 (bl 42 1) ?_
                 refine pu 1 80 (bl 42 3) ?_
                 refine pu 2 81 (bl 42 7) ?_
                 refine pu 3 82 (bl 42 15) ?_
                 refine pu 4 83 (bl 42 31) ?_
                 refine pu 5 84 (bl 42 63) ?_
                 refine pu 6 85 (bl 42 127) ?_
                 refine tk 7 86 (bl 42 255) ?_ hHeld
                 refine oe 8 87 (bl 42 511) (fun K hK => ?_)
                 refine gs Try.func21 #[.agg #[.string t789, .slice Ao36 t790.length co36]] ?_
                 with_reducible refine (spec_ProbeTubeOk.calls k3 t789 _ _ t790 false _ ?side1 ?side2 A104.out).mono ?_
                 (case side1 => exact sr HO_795001)
                 (case side2 => exact (Kd.R_reads' HO_795001.out).2.1)
                 rintro e w137 ⟨rfl, hb⟩
                 refine ⟨_, rfl, ?_⟩
                 have _ := ra (Kd.R_below (rq HO_777001) hb)
                 have _ := ra (Kd.R_below (rq HO_782001) hb)
                 have _ := ra (Kd.R_below (rq HO_795001) hb)
                 have _ := bb (bk BK776) hb
                 have _ := bb (bk BK781) hb
                 have _ := bb (bk BK794) hb
                 have _ := bs hb
                 clear HO_777001 HO_782001 HO_795001 BK776 BK781 BK794 HB
                 rename_i HO_777001 HO_782001 HO_795001 BK776 BK781 BK794 HB
                 (try clear hb)
                 (try clear hb2)
                 (try clear hk)
                 (try clear hi)
                 refine hK.out _ _ ⟨(blk_cell BK794.out 0).trans rfl, (blk_cell BK794.out 1).trans rfl, (blk_cell BK781.out 0).trans rfl, (blk_cell BK781.out 1).trans rfl⟩ (fun hHeld => ?_)
                 clear hK K
                 refine nm 87 ?_
                 refine pu 9 88 (bl 42 1023) ?_
                 refine pu 10 89 (bl 42 2047) ?_
                 refine pv 11 90 (bl 42 4095) ?_
                 refine pv 12 91 (bl 42 8191) ?_
                 refine pv 13 92 (bl 42 16383) ?_
                 refine pv 14 93 (bl 42 32767) ?_
                 refine pv 15 94 (bl 42 65535) ?_
                 refine pv 16 95 (bl 42 131071) ?_
                 refine pv 17 96 (bl 42 262143) ?_
                 refine pv 18 97 (bl 42 524287) ?_
                 refine pv 19 98 (bl 42 1048575) ?_
                 refine pv 20 99 (bl 42 2097151) ?_
                 refine pv 21 100 (bl 42 4194303) ?_
                 refine pv 22 101 (bl 42 8388607) ?_
                 refine pv 23 102 (bl 42 16777215) ?_
                 refine pv 24 103 (bl 42 33554431) ?_
                 refine pv 25 104 (bl 42 67108863) ?_
                 refine pu 26 105 (bl 42 134217727) ?_
                 refine pu 27 106 (bl 42 268435455) ?_
                 refine pu 28 107 (bl 42 536870911) ?_
                 refine pu 29 108 (bl 42 1073741823) ?_
                 refine pu 30 109 (bl 42 2147483647) ?_
                 refine pu 31 110 (bl 42 4294967295) ?_
                 refine pu 32 111 (bl 42 8589934591) ?_
                 refine pu 33 112 (bl 42 17179869183) ?_
                 refine pu 34 113 (bl 42 34359738367) ?_
                 refine pu 37 116 (bl 42 171798691839) ?_
                 refine pu 38 117 (bl 42 446676598783) ?_
                 refine tk 35 114 (bl 42 481036337151) ?_ hHeld
                 refine tk 36 115 (bl 42 549755813887) ?_ hHeld
                 refine oe 39 118 (bl 42 1099511627775) (fun K hK => ?_)
                 refine gs Try.func43 #[.agg #[.string t777, .slice Ao23 t778.length co23], .agg #[.string t789, .slice Ao36 t790.length co36], .int .i64 (wrap64 (t775 - 1))] ?_
                 with_reducible refine (laws_wNearAt.calls k3 t777 _ _ t778 t789 _ _ t790 (wrap64 (t775 - 1)) false _ ?side1 ?side2 ?side3 ?side4 A131.out).mono ?_
                 (case side1 => exact sr HO_782001)
                 (case side2 => exact (Kd.R_reads' HO_782001.out).2.1)
                 (case side3 => exact sr HO_795001)
                 (case side4 => exact (Kd.R_reads' HO_795001.out).2.1)
                 rintro e w138 ⟨rfl, hb⟩
                 refine ⟨_, rfl, ?_⟩
                 have _ := ra (Kd.R_below (rq HO_777001) hb)
                 have _ := ra (Kd.R_below (rq HO_782001) hb)
                 have _ := ra (Kd.R_below (rq HO_795001) hb)
                 have _ := bb (bk BK776) hb
                 have _ := bb (bk BK781) hb
                 have _ := bb (bk BK794) hb
                 have _ := bs hb
                 clear HO_777001 HO_782001 HO_795001 BK776 BK781 BK794 HB
                 rename_i HO_777001 HO_782001 HO_795001 BK776 BK781 BK794 HB
                 (try clear hb)
                 (try clear hb2)
                 (try clear hk)
                 (try clear hi)
                 refine hK.out _ _ ⟨(blk_cell BK794.out 0).trans rfl, (blk_cell BK794.out 1).trans rfl, (blk_cell BK781.out 0).trans rfl, (blk_cell BK781.out 1).trans rfl⟩ (fun hHeld => ?_)
                 clear hK K
                 refine nm 118 ?_
                 refine pu 40 119 (bl 42 2199023255551) ?_
                 refine pu 41 120 (bl 42 4398046511103) ?_
                 refine done_ (done_of HT_.out (by kernel_rfl)) ?_
                 try go_wp2
                 go_roundg k3
                 case measure => have := HJ2.out; have := HJ13.out; have := HK3.out; omega
                 case rel => exact ⟨(wrap64 (x10_3 + 1)), rs, H', ⟨by have := HJ2.out; have := HJ13.out; have := HK3.out; omega⟩, ⟨rq HO_777001⟩, ⟨rq HO_782001⟩, ⟨rq HO_795001⟩, ⟨bk BK776⟩, ⟨bk BK781⟩, ⟨bk BK794⟩, ⟨bq⟩⟩
               ·rw [if_neg c130] at H
                have c130b0 : decide (0 < t775) = false := decide_eq_false c130
                clear c130
                have H' := Aside0.mk H
                clear H
                try go_wp2
                have _ := ra (Kd.R_drew HO_777001.out)
                have _ := ra (Kd.R_drew HO_782001.out)
                have _ := ra (Kd.R_drew HO_795001.out)
                have _ := ra (blk_drew BK776.out)
                have _ := ra (blk_drew BK781.out)
                have _ := ra (blk_drew BK794.out)
                have _ := ra (below_drew1 HB.out)
                clear HO_777001 HO_782001 HO_795001 BK776 BK781 BK794 HB
                rename_i HO_777001 HO_782001 HO_795001 BK776 BK781 BK794 HB
                refine start_ (n := 42) (S := fun w' => w'.cell? ⟨gb794, 0, none⟩ = some (.string t789) ∧ w'.cell? ⟨gb794, 1, none⟩ = some (.slice Ao36 t790.length co36)) (ds := []) (bl 42 0) (by kernel_rfl) rfl rfl ⟨(blk_cell BK794.out 0).trans rfl, (blk_cell BK794.out 1).trans rfl⟩ (fun hHeld => ?_); refine with_tabW laws_FnCut.tab15 laws_FnCut.bits15 (fun HT_ HW_ => ?_)
                generalize wr.drew = w139 at HO_777001 HO_782001 HO_795001 BK776 BK781 BK794 HB hHeld ⊢
                refine pu 0 79 (bl 42 1) ?_
                refine pu 1 80 (bl 42 3) ?_
                refine pu 2 81 (bl 42 7) ?_
                refine pu 3 82 (bl 42 15) ?_
                refine pu 4 83 (bl 42 31) ?_
                refine pu 5 84 (bl 42 63) ?_
                refine pu 6 85 (bl 42 127) ?_
                refine tk 7 86 (bl 42 255) ?_ hHeld
                refine oe 8 87 (bl 42 511) (fun K hK => ?_)
                refine gs Try.func21 #[.agg #[.string t789, .slice Ao36 t790.length co36]] ?_
                with_reducible refine (spec_ProbeTubeOk.calls k3 t789 _ _ t790 false _ ?side1 ?side2 A104.out).mono ?_
                (case side1 => exact sr HO_795001)
                (case side2 => exact (Kd.R_reads' HO_795001.out).2.1)
                rintro e w140 ⟨rfl, hb⟩
                refine ⟨_, rfl, ?_⟩
                have _ := ra (Kd.R_below (rq HO_777001) hb)
                have _ := ra (Kd.R_below (rq HO_782001) hb)
                have _ := ra (Kd.R_below (rq HO_795001) hb)
                have _ := bb (bk BK776) hb
                have _ := bb (bk BK781) hb
                have _ := bb (bk BK794) hb
                have _ := bs hb
                clear HO_777001 HO_782001 HO_795001 BK776 BK781 BK794 HB
                rename_i HO_777001 HO_782001 HO_795001 BK776 BK781 BK794 HB
                (try clear hb)
                (try clear hb2)
                (try clear hk)
                (try clear hi)
                refine hK.out _ _ ⟨(blk_cell BK794.out 0).trans rfl, (blk_cell BK794.out 1).trans rfl⟩ (fun hHeld => ?_)
                clear hK K
                refine nm 87 ?_
                refine pu 9 88 (bl 42 1023) ?_
                refine pu 10 89 (bl 42 2047) ?_
                refine pv 11 90 (bl 42 4095) ?_
                refine pv 12 91 (bl 42 8191) ?_
                refine pv 13 92 (bl 42 16383) ?_
                refine pv 14 93 (bl 42 32767) ?_
                refine pv 15 94 (bl 42 65535) ?_
                refine pv 16 95 (bl 42 131071) ?_
                refine pv 17 96 (bl 42 262143) ?_
                refine pv 18 97 (bl 42 524287) ?_
                refine pv 19 98 (bl 42 1048575) ?_
                refine pv 20 99 (bl 42 2097151) ?_
                refine pv 21 100 (bl 42 4194303) ?_
                refine pv 22 101 (bl 42 8388607) ?_
                refine pv 23 102 (bl 42 16777215) ?_
                refine pv 24 103 (bl 42 33554431) ?_
                refine pv 25 104 (bl 42 67108863) ?_
                refine pu 26 105 (bl 42 134217727) ?_
                refine pu 27 106 (bl 42 268435455) ?_
                refine pu 28 107 (bl 42 536870911) ?_
                refine pu 29 108 (bl 42 1073741823) ?_
                refine pu 30 109 (bl 42 2147483647) ?_
                refine pv 31 110 (bl 42 4294967295) ?_
                refine pv 32 111 (bl 42 8589934591) ?_
                refine pu 33 112 (bl 42 17179869183) ?_
                refine pu 34 113 (bl 42 34359738367) ?_
                refine pv 35 114 (bl 42 68719476735) ?_
                refine pv 36 115 (bl 42 137438953471) ?_
                refine pv 37 116 (bl 42 274877906943) ?_
                refine pv 38 117 (bl 42 549755813887) ?_
                refine pv 39 118 (bl 42 1099511627775) ?_
                refine pu 40 119 (bl 42 2199023255551) ?_
                refine pu 41 120 (bl 42 4398046511103) ?_
                refine done_ (done_of HT_.out (by kernel_rfl)) ?_
                try go_wp2
                go_roundg k3
                case measure => have := HJ2.out; have := HJ13.out; have := HK3.out; omega
                case rel => exact ⟨(wrap64 (x10_3 + 1)), rs, H', ⟨by have := HJ2.out; have := HJ13.out; have := HK3.out; omega⟩, ⟨rq HO_777001⟩, ⟨rq HO_782001⟩, ⟨rq HO_795001⟩, ⟨bk BK776⟩, ⟨bk BK781⟩, ⟨bk BK794⟩, ⟨bq⟩⟩
             ·rw [if_neg c103] at H
              have c103b0 : decide (t775 ≤ 10000) = false := decide_eq_false c103
              clear c103
              by_cases c141 : t775 > 0
              ·rw [if_pos c141] at H
               have c141b0 : decide (0 < t775) = true := decide_eq_true c141
               clear c141
               have H' := Aside0.mk H
               clear H
               try go_wp2
               have _ := ra (Kd.R_drew HO_777001.out)
               have _ := ra (Kd.R_drew HO_782001.out)
               have _ := ra (Kd.R_drew HO_795001.out)
               have _ := ra (blk_drew BK776.out)
               have _ := ra (blk_drew BK781.out)
               have _ := ra (blk_drew BK794.out)
               have _ := ra (below_drew1 HB.out)
               clear HO_777001 HO_782001 HO_795001 BK776 BK781 BK794 HB
               rename_i HO_777001 HO_782001 HO_795001 BK776 BK781 BK794 HB
               refine start_ (n := 42) (S := fun w' => True) (ds := []) (bl 42 0) (by kernel_rfl) rfl rfl trivial (fun hHeld => ?_); refine with_tabW laws_FnCut.tab15 laws_FnCut.bits15 (fun HT_ HW_ => ?_)
               generalize wr.drew = w142 at HO_777001 HO_782001 HO_795001 BK776 BK781 BK794 HB hHeld ⊢
               refine pu 0 79 (bl 42 1) ?_
               refine pu 1 80 (bl 42 3) ?_
               refine pu 2 81 (bl 42 7) ?_
               refine pu 3 82 (bl 42 15) ?_
               refine pu 4 83 (bl 42 31) ?_
               refine pu 5 84 (bl 42 63) ?_
               refine pu 6 85 (bl 42 127) ?_
               refine pv 7 86 (bl 42 255) ?_
               refine pv 8 87 (bl 42 511) ?_
               refine pu 9 88 (bl 42 1023) ?_
               refine pu 10 89 (bl 42 2047) ?_
               refine pv 11 90 (bl 42 4095) ?_
               refine pv 12 91 (bl 42 8191) ?_
               refine pv 13 92 (bl 42 16383) ?_
               refine pv 14 93 (bl 42 32767) ?_
               refine pv 15 94 (bl 42 65535) ?_
               refine pv 16 95 (bl 42 131071) ?_
               refine pv 17 96 (bl 42 262143) ?_
               refine pv 18 97 (bl 42 524287) ?_
               refine pv 19 98 (bl 42 1048575) ?_
               refine pv 20 99 (bl 42 2097151) ?_
               refine pv 21 100 (bl 42 4194303) ?_
               refine pv 22 101 (bl 42 8388607) ?_
               refine pv 23 102 (bl 42 16777215) ?_
               refine pv 24 103 (bl 42 33554431) ?_
               refine pv 25 104 (bl 42 67108863) ?_
               refine pu 26 105 (bl 42 134217727) ?_
               refine pu 27 106 (bl 42 268435455) ?_
               refine pu 28 107 (bl 42 536870911) ?_
               refine pu 29 108 (bl 42 1073741823) ?_
               refine pu 30 109 (bl 42 2147483647) ?_
               refine pu 31 110 (bl 42 4294967295) ?_
               refine pu 32 111 (bl 42 8589934591) ?_
               refine pu 33 112 (bl 42 17179869183) ?_
               refine pu 34 113 (bl 42 34359738367) ?_
               refine pv 35 114 (bl 42 68719476735) ?_
               refine pv 36 115 (bl 42 137438953471) ?_
               refine pv 37 116 (bl 42 274877906943) ?_
               refine pv 38 117 (bl 42 549755813887) ?_
               refine pv 39 118 (bl 42 1099511627775) ?_
               refine pu 40 119 (bl 42 2199023255551) ?_
               refine pu 41 120 (bl 42 4398046511103) ?_
               refine done_ (done_of HT_.out (by kernel_rfl)) ?_
               try go_wp2
               go_roundg k3
               case measure => have := HJ2.out; have := HJ13.out; have := HK3.out; omega
               case rel => exact ⟨(wrap64 (x10_3 + 1)), rs, H', ⟨by have := HJ2.out; have := HJ13.out; have := HK3.out; omega⟩, ⟨rq HO_777001⟩, ⟨rq HO_782001⟩, ⟨rq HO_795001⟩, ⟨bk BK776⟩, ⟨bk BK781⟩, ⟨bk BK794⟩, ⟨bq⟩⟩
              ·rw [if_neg c141] at H
               have c141b0 : decide (0 < t775) = false := decide_eq_false c141
               clear c141
               have H' := Aside0.mk H
               clear H
               try go_wp2
               have _ := ra (Kd.R_drew HO_777001.out)
               have _ := ra (Kd.R_drew HO_782001.out)
               have _ := ra (Kd.R_drew HO_795001.out)
               have _ := ra (blk_drew BK776.out)
               have _ := ra (blk_drew BK781.out)
               have _ := ra (blk_drew BK794.out)
               have _ := ra (below_drew1 HB.out)
               clear HO_777001 HO_782001 HO_795001 BK776 BK781 BK794 HB
               rename_i HO_777001 HO_782001 HO_795001 BK776 BK781 BK794 HB
               refine start_ (n := 42) (S := fun w' => True) (ds := []) (bl 42 0) (by kernel_rfl) rfl rfl trivial (fun hHeld => ?_); refine with_tabW laws_FnCut.tab15 laws_FnCut.bits15 (fun HT_ HW_ => ?_)
               generalize wr.drew = w143 at HO_777001 HO_782001 HO_795001 BK776 BK781 BK794 HB hHeld ⊢
               refine pu 0 79 (bl 42 1) ?_
               refine pu 1 80 (bl 42 3) ?_
               refine pu 2 81 (bl 42 7) ?_
               refine pu 3 82 (bl 42 15) ?_
               refine pu 4 83 (bl 42 31) ?_
               refine pu 5 84 (bl 42 63) ?_
               refine pu 6 85 (bl 42 127) ?_
               refine pv 7 86 (bl 42 255) ?_
               refine pv 8 87 (bl 42 511) ?_
               refine pu 9 88 (bl 42 1023) ?_
               refine pu 10 89 (bl 42 2047) ?_
               refine pv 11 90 (bl 42 4095) ?_
               refine pv 12 91 (bl 42 8191) ?_
               refine pv 13 92 (bl 42 16383) ?_
               refine pv 14 93 (bl 42 32767) ?_
               refine pv 15 94 (bl 42 65535) ?_
               refine pv 16 95 (bl 42 131071) ?_
               refine pv 17 96 (bl 42 262143) ?_
               refine pv 18 97 (bl 42 524287) ?_
               refine pv 19 98 (bl 42 1048575) ?_
               refine pv 20 99 (bl 42 2097151) ?_
               refine pv 21 100 (bl 42 4194303) ?_
               refine pv 22 101 (bl 42 8388607) ?_
               refine pv 23 102 (bl 42 16777215) ?_
               refine pv 24 103 (bl 42 33554431) ?_
               refine pv 25 104 (bl 42 67108863) ?_
               refine pu 26 105 (bl 42 134217727) ?_
               refine pu 27 106 (bl 42 268435455) ?_
               refine pu 28 107 (bl 42 536870911) ?_
               refine pu 29 108 (bl 42 1073741823) ?_
               refine pu 30 109 (bl 42 2147483647) ?_
               refine pv 31 110 (bl 42 4294967295) ?_
               refine pv 32 111 (bl 42 8589934591) ?_
               refine pu 33 112 (bl 42 17179869183) ?_
               refine pu 34 113 (bl 42 34359738367) ?_
               refine pv 35 114 (bl 42 68719476735) ?_
               refine pv 36 115 (bl 42 137438953471) ?_
               refine pv 37 116 (bl 42 274877906943) ?_
               refine pv 38 117 (bl 42 549755813887) ?_
               refine pv 39 118 (bl 42 1099511627775) ?_
               refine pu 40 119 (bl 42 2199023255551) ?_
               refine pu 41 120 (bl 42 4398046511103) ?_
               refine done_ (done_of HT_.out (by kernel_rfl)) ?_
               try go_wp2
               go_roundg k3
               case measure => have := HJ2.out; have := HJ13.out; have := HK3.out; omega
               case rel => exact ⟨(wrap64 (x10_3 + 1)), rs, H', ⟨by have := HJ2.out; have := HJ13.out; have := HK3.out; omega⟩, ⟨rq HO_777001⟩, ⟨rq HO_782001⟩, ⟨rq HO_795001⟩, ⟨bk BK776⟩, ⟨bk BK781⟩, ⟨bk BK794⟩, ⟨bq⟩⟩
            ·rw [if_neg c102] at H
             have c102b0 : decide (0 ≤ t775) = false := decide_eq_false c102
             clear c102
             by_cases c144 : t775 > 0
             ·rw [if_pos c144] at H
              have c144b0 : decide (0 < t775) = true := decide_eq_true c144
              clear c144
              by_cases c145 : t775 ≤ 10000
              ·rw [if_pos c145] at H
               have c145b0 : decide (t775 ≤ 10000) = true := decide_eq_true c145
               clear c145
               obtain ⟨t829, A146, H⟩ := bo H
               by_cases c147 : t829 = true
               ·subst c147
                have H1 : (some false) = some true := by rw [if_pos rfl] at H; exact H
                clear H
                have H := H1
                exact absurd (Option.some.inj H) (by decide)
               ·replace c147 := Bool.eq_false_iff.mpr c147
                subst c147
                have H1 : (laws_FnCut.l0 k3 t775 (wrap64 (x10_3 + 1)) t771 t772 t777 t778 t789 t790) = some true := by rw [if_neg (show ¬ (false = true) by decide)] at H; exact H
                clear H
                have H := H1
                clear H1
                have H' := Aside0.mk H
                clear H
                try go_wp2
                have _ := ra (Kd.R_drew HO_777001.out)
                have _ := ra (Kd.R_drew HO_782001.out)
                have _ := ra (Kd.R_drew HO_795001.out)
                have _ := ra (blk_drew BK776.out)
                have _ := ra (blk_drew BK781.out)
                have _ := ra (blk_drew BK794.out)
                have _ := ra (below_drew1 HB.out)
                clear HO_777001 HO_782001 HO_795001 BK776 BK781 BK794 HB
                rename_i HO_777001 HO_782001 HO_795001 BK776 BK781 BK794 HB
                refine start_ (n := 42) (S := fun w' => w'.cell? ⟨gb781, 0, none⟩ = some (.string t777) ∧ w'.cell? ⟨gb781, 1, none⟩ = some (.slice Ao23 t778.length co23) ∧ w'.cell? ⟨gb794, 0, none⟩ = some (.string t789) ∧ w'.cell? ⟨gb794, 1, none⟩ = some (.slice Ao36 t790.length co36)) (ds := []) (bl 42 0) (by kernel_rfl) rfl rfl ⟨(blk_cell BK781.out 0).trans rfl, (blk_cell BK781.out 1).trans rfl, (blk_cell BK794.out 0).trans rfl, (blk_cell BK794.out 1).trans rfl⟩ (fun hHeld => ?_); refine with_tabW laws_FnCut.tab15 laws_FnCut.bits15 (fun HT_ HW_ => ?_)
                generalize wr.drew = w150 at HO_777001 HO_782001 HO_795001 BK776 BK781 BK794 HB hHeld ⊢
                refine pu 0 79 (bl 42 1) ?_
                refine pu 1 80 (bl 42 3) ?_
                refine pu 2 81 (bl 42 7) ?_
                refine pv 3 82 (bl 42 15) ?_
                refine pv 4 83 (bl 42 31) ?_
                refine pu 5 84 (bl 42 63) ?_
                refine pu 6 85 (bl 42 127) ?_
                refine pv 7 86 (bl 42 255) ?_
                refine pv 8 87 (bl 42 511) ?_
                refine pu 9 88 (bl 42 1023) ?_
                refine pu 10 89 (bl 42 2047) ?_
                refine pv 11 90 (bl 42 4095) ?_
                refine pv 12 91 (bl 42 8191) ?_
                refine pv 13 92 (bl 42 16383) ?_
                refine pv 14 93 (bl 42 32767) ?_
                refine pv 15 94 (bl 42 65535) ?_
                refine pv 16 95 (bl 42 131071) ?_
                refine pv 17 96 (bl 42 262143) ?_
                refine pv 18 97 (bl 42 524287) ?_
                refine pv 19 98 (bl 42 1048575) ?_
                refine pv 20 99 (bl 42 2097151) ?_
                refine pv 21 100 (bl 42 4194303) ?_
                refine pv 22 101 (bl 42 8388607) ?_
                refine pv 23 102 (bl 42 16777215) ?_
                refine pv 24 103 (bl 42 33554431) ?_
                refine pv 25 104 (bl 42 67108863) ?_
                refine pu 26 105 (bl 42 134217727) ?_
                refine pu 27 106 (bl 42 268435455) ?_
                refine pu 28 107 (bl 42 536870911) ?_
                refine pu 29 108 (bl 42 1073741823) ?_
                refine pu 30 109 (bl 42 2147483647) ?_
                refine pu 31 110 (bl 42 4294967295) ?_
                refine pu 32 111 (bl 42 8589934591) ?_
                refine pu 33 112 (bl 42 17179869183) ?_
                refine pu 34 113 (bl 42 34359738367) ?_
                refine pu 37 116 (bl 42 171798691839) ?_
                refine pu 38 117 (bl 42 446676598783) ?_
                refine tk 35 114 (bl 42 481036337151) ?_ hHeld
                refine tk 36 115 (bl 42 549755813887) ?_ hHeld
                refine oe 39 118 (bl 42 1099511627775) (fun K hK => ?_)
                refine gs Try.func43 #[.agg #[.string t777, .slice Ao23 t778.length co23], .agg #[.string t789, .slice Ao36 t790.length co36], .int .i64 (wrap64 (t775 - 1))] ?_
                with_reducible refine (laws_wNearAt.calls k3 t777 _ _ t778 t789 _ _ t790 (wrap64 (t775 - 1)) false _ ?side1 ?side2 ?side3 ?side4 A146.out).mono ?_
                (case side1 => exact sr HO_782001)
                (case side2 => exact (Kd.R_reads' HO_782001.out).2.1)
                (case side3 => exact sr HO_795001)
                (case side4 => exact (Kd.R_reads' HO_795001.out).2.1)
                rintro e w151 ⟨rfl, hb⟩
                refine ⟨_, rfl, ?_⟩
                have _ := ra (Kd.R_below (rq HO_777001) hb)
                have _ := ra (Kd.R_below (rq HO_782001) hb)
                have _ := ra (Kd.R_below (rq HO_795001) hb)
                have _ := bb (bk BK776) hb
                have _ := bb (bk BK781) hb
                have _ := bb (bk BK794) hb
                have _ := bs hb
                clear HO_777001 HO_782001 HO_795001 BK776 BK781 BK794 HB
                rename_i HO_777001 HO_782001 HO_795001 BK776 BK781 BK794 HB
                (try clear hb)
                (try clear hb2)
                (try clear hk)
                (try clear hi)
                refine hK.out _ _ ⟨(blk_cell BK781.out 0).trans rfl, (blk_cell BK781.out 1).trans rfl, (blk_cell BK794.out 0).trans rfl, (blk_cell BK794.out 1).trans rfl⟩ (fun hHeld => ?_)
                clear hK K
                refine nm 118 ?_
                refine pu 40 119 (bl 42 2199023255551) ?_
                refine pu 41 120 (bl 42 4398046511103) ?_
                refine done_ (done_of HT_.out (by kernel_rfl)) ?_
                try go_wp2
                go_roundg k3
                case measure => have := HJ2.out; have := HJ13.out; have := HK3.out; omega
                case rel => exact ⟨(wrap64 (x10_3 + 1)), rs, H', ⟨by have := HJ2.out; have := HJ13.out; have := HK3.out; omega⟩, ⟨rq HO_777001⟩, ⟨rq HO_782001⟩, ⟨rq HO_795001⟩, ⟨bk BK776⟩, ⟨bk BK781⟩, ⟨bk BK794⟩, ⟨bq⟩⟩
              ·rw [if_neg c145] at H
               have c145b0 : decide (t775 ≤ 10000) = false := decide_eq_false c145
               clear c145
               have H' := Aside0.mk H
               clear H
               try go_wp2
               have _ := ra (Kd.R_drew HO_777001.out)
               have _ := ra (Kd.R_drew HO_782001.out)
               have _ := ra (Kd.R_drew HO_795001.out)
               have _ := ra (blk_drew BK776.out)
               have _ := ra (blk_drew BK781.out)
               have _ := ra (blk_drew BK794.out)
               have _ := ra (below_drew1 HB.out)
               clear HO_777001 HO_782001 HO_795001 BK776 BK781 BK794 HB
               rename_i HO_777001 HO_782001 HO_795001 BK776 BK781 BK794 HB
               refine start_ (n := 42) (S := fun w' => True) (ds := []) (bl 42 0) (by kernel_rfl) rfl rfl trivial (fun hHeld => ?_); refine with_tabW laws_FnCut.tab15 laws_FnCut.bits15 (fun HT_ HW_ => ?_)
               generalize wr.drew = w152 at HO_777001 HO_782001 HO_795001 BK776 BK781 BK794 HB hHeld ⊢
               refine pu 0 79 (bl 42 1) ?_
               refine pu 1 80 (bl 42 3) ?_
               refine pu 2 81 (bl 42 7) ?_
               refine pv 3 82 (bl 42 15) ?_
               refine pv 4 83 (bl 42 31) ?_
               refine pu 5 84 (bl 42 63) ?_
               refine pu 6 85 (bl 42 127) ?_
               refine pv 7 86 (bl 42 255) ?_
               refine pv 8 87 (bl 42 511) ?_
               refine pu 9 88 (bl 42 1023) ?_
               refine pu 10 89 (bl 42 2047) ?_
               refine pv 11 90 (bl 42 4095) ?_
               refine pv 12 91 (bl 42 8191) ?_
               refine pv 13 92 (bl 42 16383) ?_
               refine pv 14 93 (bl 42 32767) ?_
               refine pv 15 94 (bl 42 65535) ?_
               refine pv 16 95 (bl 42 131071) ?_
               refine pv 17 96 (bl 42 262143) ?_
               refine pv 18 97 (bl 42 524287) ?_
               refine pv 19 98 (bl 42 1048575) ?_
               refine pv 20 99 (bl 42 2097151) ?_
               refine pv 21 100 (bl 42 4194303) ?_
               refine pv 22 101 (bl 42 8388607) ?_
               refine pv 23 102 (bl 42 16777215) ?_
               refine pv 24 103 (bl 42 33554431) ?_
               refine pv 25 104 (bl 42 67108863) ?_
               refine pu 26 105 (bl 42 134217727) ?_
               refine pu 27 106 (bl 42 268435455) ?_
               refine pu 28 107 (bl 42 536870911) ?_
               refine pu 29 108 (bl 42 1073741823) ?_
               refine pu 30 109 (bl 42 2147483647) ?_
               refine pu 31 110 (bl 42 4294967295) ?_
               refine pu 32 111 (bl 42 8589934591) ?_
               refine pu 33 112 (bl 42 17179869183) ?_
               refine pu 34 113 (bl 42 34359738367) ?_
               refine pv 35 114 (bl 42 68719476735) ?_
               refine pv 36 115 (bl 42 137438953471) ?_
               refine pv 37 116 (bl 42 274877906943) ?_
               refine pv 38 117 (bl 42 549755813887) ?_
               refine pv 39 118 (bl 42 1099511627775) ?_
               refine pu 40 119 (bl 42 2199023255551) ?_
               refine pu 41 120 (bl 42 4398046511103) ?_
               refine done_ (done_of HT_.out (by kernel_rfl)) ?_
               try go_wp2
               go_roundg k3
               case measure => have := HJ2.out; have := HJ13.out; have := HK3.out; omega
               case rel => exact ⟨(wrap64 (x10_3 + 1)), rs, H', ⟨by have := HJ2.out; have := HJ13.out; have := HK3.out; omega⟩, ⟨rq HO_777001⟩, ⟨rq HO_782001⟩, ⟨rq HO_795001⟩, ⟨bk BK776⟩, ⟨bk BK781⟩, ⟨bk BK794⟩, ⟨bq⟩⟩
             ·rw [if_neg c144] at H
              have c144b0 : decide (0 < t775) = false := decide_eq_false c144
              clear c144
              have H' := Aside0.mk H
              clear H
              try go_wp2
              have _ := ra (Kd.R_drew HO_777001.out)
              have _ := ra (Kd.R_drew HO_782001.out)
              have _ := ra (Kd.R_drew HO_795001.out)
              have _ := ra (blk_drew BK776.out)
              have _ := ra (blk_drew BK781.out)
              have _ := ra (blk_drew BK794.out)
              have _ := ra (below_drew1 HB.out)
              clear HO_777001 HO_782001 HO_795001 BK776 BK781 BK794 HB
              rename_i HO_777001 HO_782001 HO_795001 BK776 BK781 BK794 HB
              refine start_ (n := 42) (S := fun w' => True) (ds := []) (bl 42 0) (by kernel_rfl) rfl rfl trivial (fun hHeld => ?_); refine with_tabW laws_FnCut.tab15 laws_FnCut.bits15 (fun HT_ HW_ => ?_)
              generalize wr.drew = w153 at HO_777001 HO_782001 HO_795001 BK776 BK781 BK794 HB hHeld ⊢
              refine pu 0 79 (bl 42 1) ?_
              refine pu 1 80 (bl 42 3) ?_
              refine pu 2 81 (bl 42 7) ?_
              refine pv 3 82 (bl 42 15) ?_
              refine pv 4 83 (bl 42 31) ?_
              refine pu 5 84 (bl 42 63) ?_
              refine pu 6 85 (bl 42 127) ?_
              refine pv 7 86 (bl 42 255) ?_
              refine pv 8 87 (bl 42 511) ?_
              refine pu 9 88 (bl 42 1023) ?_
              refine pu 10 89 (bl 42 2047) ?_
              refine pv 11 90 (bl 42 4095) ?_
              refine pv 12 91 (bl 42 8191) ?_
              refine pv 13 92 (bl 42 16383) ?_
              refine pv 14 93 (bl 42 32767) ?_
              refine pv 15 94 (bl 42 65535) ?_
              refine pv 16 95 (bl 42 131071) ?_
              refine pv 17 96 (bl 42 262143) ?_
              refine pv 18 97 (bl 42 524287) ?_
              refine pv 19 98 (bl 42 1048575) ?_
              refine pv 20 99 (bl 42 2097151) ?_
              refine pv 21 100 (bl 42 4194303) ?_
              refine pv 22 101 (bl 42 8388607) ?_
              refine pv 23 102 (bl 42 16777215) ?_
              refine pv 24 103 (bl 42 33554431) ?_
              refine pv 25 104 (bl 42 67108863) ?_
              refine pu 26 105 (bl 42 134217727) ?_
              refine pu 27 106 (bl 42 268435455) ?_
              refine pu 28 107 (bl 42 536870911) ?_
              refine pu 29 108 (bl 42 1073741823) ?_
              refine pu 30 109 (bl 42 2147483647) ?_
              refine pv 31 110 (bl 42 4294967295) ?_
              refine pv 32 111 (bl 42 8589934591) ?_
              refine pu 33 112 (bl 42 17179869183) ?_
              refine pu 34 113 (bl 42 34359738367) ?_
              refine pv 35 114 (bl 42 68719476735) ?_
              refine pv 36 115 (bl 42 137438953471) ?_
              refine pv 37 116 (bl 42 274877906943) ?_
              refine pv 38 117 (bl 42 549755813887) ?_
              refine pv 39 118 (bl 42 1099511627775) ?_
              refine pu 40 119 (bl 42 2199023255551) ?_
              refine pu 41 120 (bl 42 4398046511103) ?_
              refine done_ (done_of HT_.out (by kernel_rfl)) ?_
              try go_wp2
              go_roundg k3
              case measure => have := HJ2.out; have := HJ13.out; have := HK3.out; omega
              case rel => exact ⟨(wrap64 (x10_3 + 1)), rs, H', ⟨by have := HJ2.out; have := HJ13.out; have := HK3.out; omega⟩, ⟨rq HO_777001⟩, ⟨rq HO_782001⟩, ⟨rq HO_795001⟩, ⟨bk BK776⟩, ⟨bk BK781⟩, ⟨bk BK794⟩, ⟨bq⟩⟩
           ·rw [if_neg c101] at H
            have c101b0 : decide (x10_3 < 12) = false := decide_eq_false c101
            clear c101 H
            go_wp2
            go_ret
            exact ⟨re, bq⟩
     ·replace c12 := Bool.eq_false_iff.mpr c12
      subst c12
      have H1 : ((laws_wTube.f kj2 t777 t778 (⟨#[]⟩ : ByteArray) ([] : List (S26))).bind fun t788 => (some t788)) = some true := by rw [if_neg (show ¬ (false = true) by decide)] at H; exact H
      clear H
      have H := H1
      clear H1
      obtain ⟨t788, A154, H⟩ := bo H
      obtain rfl : t788 = true := Option.some.inj H
      try go_wp2_with (first | ((with_reducible refine gate_callee (f := 41) rfl ?_); refine gl (some 21) Try.func41 #[.slice A0 l0.length c0] ?_; (with_reducible refine (spec_DrawProbeCut.calls kj2 _ _ l0 t771 t772 t775 _ ?side1 ?side2 A6.out).mono ?_); (case side1 => exact sc HR0); (case side2 => exact HC0.out); rintro e w155 ⟨v773, rfl, ho0, hb⟩; refine ⟨_, rfl, ?_⟩; have _ := ra (Kd.R_lower ho0 (below_size bq)); have _ := bs hb; clear HB; rename_i HO774 HB; (try clear hb); (try clear hb2); (try clear hk); (try clear hi); (try clear ho0)) | ((with_reducible refine gate_dst (N := 5) rfl ?_); (try (refine gate_guard (by rfl) ?_; dsimp only)); refine be 5 #[.string (⟨#[]⟩ : ByteArray), .slice none 0 0] 39 ?_; intro gb776 hg w156 hbox hb; have _ := ra (Kd.R_below (rq HO774) hb); have _ := bs hb; have _ := ra (hbox); have _ := bz (w0 := w) hg; have _ := bz (w0 := w) hg; clear HO774 HB; rename_i HO774 HB BK776 GW776 GE776; clear hb hbox hg; obtain ⟨hcz157_0, hcz157_1, hfz157_0, hfz157_1⟩ := zc2 BK776; obtain ⟨Ao158, co158, eo158⟩ := Kd.R_slice HO774.out; subst eo158) | ((with_reducible refine gate_callee (f := 36) rfl ?_); refine gl (some 26) Try.func36 #[.agg #[.string t771, .slice Ao158 t772.length co158], .int .i64 t775] ?_; (with_reducible refine (impl_ProbeCut.calls kj2 t771 _ _ t772 t775 t777 t778 _ ?side1 ?side2 A7.out).mono ?_); (case side1 => refine (Kd.R_reads' (e := 26) (base := w.heap.size) (ok := fun k_ => True) (n := t772.length) (c := co158) ?_).2.2; exact (Kd.R_mono (rf (Kd.R_types HO774.out BK776.out (by decide))) (fun _ h_ => h_.1))); (case side2 => exact (Kd.R_reads' HO774.out).2.1); rintro e w159 ⟨v779, rfl, ho0, hb⟩; refine ⟨_, rfl, ?_⟩; have _ := ra (Kd.R_elder' (Kd.R_mono (rf (Kd.R_types HO774.out BK776.out (by decide))) (fun _ h_ => h_.1)) (Kd.R_base ho0) hb); have _ := ra (Kd.R_lower (Kd.R_new' ho0 (Kd.R_lt (Kd.R_mono (rf (Kd.R_types HO774.out BK776.out (by decide))) (fun _ h_ => h_.1)))) (below_size bq)); have _ := bb (o := .cells #[.string t771, .slice Ao158 t772.length co158] 39 (0, 0)) (bp BK776) hb; have _ := bs hb; clear HO774 BK776 HB; rename_i HO774 HO780 BK776 HB; (try clear hb); (try clear hb2); (try clear hk); (try clear hi); (try clear ho0)) | ((with_reducible refine gate_dst (N := 7) rfl ?_); (try (refine gate_guard (by rfl) ?_; dsimp only)); refine be 7 #[.string (⟨#[]⟩ : ByteArray), .slice none 0 0] 39 ?_; intro gb781 hg w160 hbox hb; have _ := ra (Kd.R_below (rq HO774) hb); have _ := ra (Kd.R_below (rq HO780) hb); have _ := bb (bk BK776) hb; have _ := bs hb; have _ := ra (hbox); have _ := bz (w0 := w) hg; have _ := bz (w0 := w) hg; have _ := bn hg (bk BK776); have _ := bm hg (bk BK776); clear HO774 HO780 BK776 HB; rename_i HO774 HO780 BK776 HB BK781 GW781 GE781 NB776_781 NB781_776; clear hb hbox hg; have hnb161 := NB781_776.out; have hnc161 := NB776_781.out; obtain ⟨hcz162_0, hcz162_1, hfz162_0, hfz162_1⟩ := zc2 BK781; obtain ⟨Ao163, co163, eo163⟩ := Kd.R_slice HO780.out; subst eo163))
      have n0 : Aside0 (Kd.R k26 26 ((w160.setCell ⟨gb781, 0, none⟩ (.string t777)).setCell ⟨gb781, 1, none⟩ (.slice Ao163 t778.length co163)) w.heap.size (fun k_ => some k_ ≠ (.slice Ao163 t778.length co163 : Value).ownBlock) (.slice Ao158 t772.length co158) t772) := ⟨by (with_reducible repeat (first | apply Kd.R_alloc | apply Kd.R_drewN | apply Kd.R_drew)); exact Kd.R_mono (rf (Kd.R_types HO774.out BK781.out (by decide))) (fun _ hk => hk.1.2)⟩
      have n1 : Aside0 (Kd.R k26 26 ((w160.setCell ⟨gb781, 0, none⟩ (.string t777)).setCell ⟨gb781, 1, none⟩ (.slice Ao163 t778.length co163)) w.heap.size (fun k_ => some k_ ≠ (.slice Ao158 t772.length co158 : Value).ownBlock) (.slice Ao163 t778.length co163) t778) := ⟨by (with_reducible repeat (first | apply Kd.R_alloc | apply Kd.R_drewN | apply Kd.R_drew)); exact Kd.R_mono (rf (Kd.R_types HO780.out BK781.out (by decide))) (fun _ hk => hk.1.2)⟩
      have n2 : Aside0 (((w160.setCell ⟨gb781, 0, none⟩ (.string t777)).setCell ⟨gb781, 1, none⟩ (.slice Ao163 t778.length co163)).heap[gb776]? = some (.cells #[.string t771, .slice Ao158 t772.length co158] 39 (0, 0))) := ⟨bk BK776⟩
      have n3 : Aside0 (((w160.setCell ⟨gb781, 0, none⟩ (.string t777)).setCell ⟨gb781, 1, none⟩ (.slice Ao163 t778.length co163)).heap[gb781]? = some (.cells #[.string t777, .slice Ao163 t778.length co163] 39 (0, 0))) := ⟨bp BK781⟩
      have n4 : Aside0 (Below w.heap.size w ((w160.setCell ⟨gb781, 0, none⟩ (.string t777)).setCell ⟨gb781, 1, none⟩ (.slice Ao163 t778.length co163))) := ⟨bq⟩
      (try clear HO774)
      (try clear HO780)
      (try clear BK776)
      (try clear BK781)
      (try clear HB)
      generalize ((w160.setCell ⟨gb781, 0, none⟩ (.string t777)).setCell ⟨gb781, 1, none⟩ (.slice Ao163 t778.length co163)) = w164 at n0 n1 n2 n3 n4 ⊢
      have HO774 := n0
      have HO780 := n1
      have BK776 := n2
      have BK781 := n3
      have HB := n4
      clear n0 n1 n2 n3 n4
      have _ := ra (Kd.R_drew HO774.out)
      have _ := ra (Kd.R_drew HO780.out)
      have _ := ra (blk_drew BK776.out)
      have _ := ra (blk_drew BK781.out)
      have _ := ra (below_drew1 HB.out)
      clear HO774 HO780 BK776 BK781 HB
      rename_i HO774 HO780 BK776 BK781 HB
      refine start_ (n := 6) (S := fun w' => w'.cell? ⟨gb781, 0, none⟩ = some (.string t777) ∧ w'.cell? ⟨gb781, 1, none⟩ = some (.slice Ao163 t778.length co163) ∧ w'.cell? ⟨gb776, 0, none⟩ = some (.string t771) ∧ w'.cell? ⟨gb776, 1, none⟩ = some (.slice Ao158 t772.length co158)) (ds := []) (bl 6 0) (by kernel_rfl) rfl rfl ⟨(blk_cell BK781.out 0).trans rfl, (blk_cell BK781.out 1).trans rfl, (blk_cell BK776.out 0).trans rfl, (blk_cell BK776.out 1).trans rfl⟩ (fun hHeld => ?_)
      generalize w164.drew = w165 at HO774 HO780 BK776 BK781 HB hHeld ⊢
      refine pu 2 29 (bl 6 4) ?_
      refine tk 0 27 (bl 6 5) ?_ hHeld
      refine tk 1 28 (bl 6 7) ?_ hHeld
      refine oe 3 30 (bl 6 15) (fun K hK => ?_)
      refine gs Try.func35 #[.agg #[.string t771, .slice Ao158 t772.length co158], .int .i64 t775] ?_
      with_reducible refine (spec_ProbeCut.calls kj2 t771 _ _ t772 t775 t782 t783 _ ?side1 ?side2 A8.out).mono ?_
      (case side1 => exact sr HO774)
      (case side2 => exact (Kd.R_reads' HO774.out).2.1)
      rintro e w166 ⟨v784, rfl, ho0, hb⟩
      refine ⟨_, rfl, ?_⟩
      have _ := ra (Kd.R_elder' (rq HO774) (Kd.R_base ho0) hb)
      have _ := ra (Kd.R_elder' (rq HO780) (Kd.R_base ho0) hb)
      have _ := ra (Kd.R_lower (Kd.R_new' (Kd.R_new' ho0 (Kd.R_lt (rq HO774))) (Kd.R_lt (rq HO780))) (below_size bq))
      have _ := bb (bk BK776) hb
      have _ := bb (bk BK781) hb
      have _ := bs hb
      clear HO774 HO780 BK776 BK781 HB
      rename_i HO774 HO780 HO785 BK776 BK781 HB
      (try clear hb)
      (try clear hb2)
      (try clear hk)
      (try clear hi)
      (try clear ho0)
      obtain ⟨Ao167, co167, eo167⟩ := Kd.R_slice HO785.out
      (first | subst eo167 | (injection eo167 with f1_ f2_ f3_; have f4_ := f1_.symm; have f5_ := f3_.symm; clear f1_ f2_ f3_; subst f4_; subst f5_))
      refine hK.out _ _ ⟨(blk_cell BK781.out 0).trans rfl, (blk_cell BK781.out 1).trans rfl, (blk_cell BK776.out 0).trans rfl, (blk_cell BK776.out 1).trans rfl⟩ (fun hHeld => ?_)
      clear hK K
      refine nm 30 ?_
      refine oe 4 31 (bl 6 31) (fun K hK => ?_)
      refine gs Try.func42 #[.agg #[.string t777, .slice Ao163 t778.length co163], .agg #[.string t782, .slice Ao167 t783.length co167]] ?_
      with_reducible refine (laws_wTube.calls kj2 t777 _ _ t778 t782 _ _ t783 true _ ?side1 ?side2 ?side3 ?side4 A9.out).mono ?_
      (case side1 => exact sr HO780)
      (case side2 => exact (Kd.R_reads' HO780.out).2.1)
      (case side3 => exact sr HO785)
      (case side4 => exact (Kd.R_reads' HO785.out).2.1)
      rintro e w168 ⟨rfl, hb⟩
      refine ⟨_, rfl, ?_⟩
      have _ := ra (Kd.R_below (rq HO774) hb)
      have _ := ra (Kd.R_below (rq HO780) hb)
      have _ := ra (Kd.R_below (rq HO785) hb)
      have _ := bb (bk BK776) hb
      have _ := bb (bk BK781) hb
      have _ := bs hb
      clear HO774 HO780 HO785 BK776 BK781 HB
      rename_i HO774 HO780 HO785 BK776 BK781 HB
      (try clear hb)
      (try clear hb2)
      (try clear hk)
      (try clear hi)
      refine hK.out _ _ ⟨(blk_cell BK781.out 0).trans rfl, (blk_cell BK781.out 1).trans rfl, (blk_cell BK776.out 0).trans rfl, (blk_cell BK776.out 1).trans rfl⟩ (fun hHeld => ?_)
      clear hK K
      refine nm 31 ?_
      refine pu 5 32 (bl 6 63) ?_
      refine done_ (by kernel_rfl) ?_
      obtain ⟨hcz169_0, hcz169_1, hfz169_0, hfz169_1⟩ := zc2 BK776
      try go_wp2_with (first | ((with_reducible refine gate_callee (f := 21) rfl ?_); refine gl (some 34) Try.func21 #[.agg #[.string t771, .slice Ao158 t772.length co158]] ?_; (with_reducible refine (spec_ProbeTubeOk.calls kj2 t771 _ _ t772 false _ ?side1 ?side2 A11.out).mono ?_); (case side1 => exact sr HO774); (case side2 => exact (Kd.R_reads' HO774.out).2.1); rintro e w170 ⟨rfl, hb⟩; refine ⟨_, rfl, ?_⟩; have _ := ra (Kd.R_below (rq HO774) hb); have _ := ra (Kd.R_below (rq HO780) hb); have _ := ra (Kd.R_below (rq HO785) hb); have _ := bb (bk BK776) hb; have _ := bb (bk BK781) hb; have _ := bs hb; clear HO774 HO780 HO785 BK776 BK781 HB; rename_i HO774 HO780 HO785 BK776 BK781 HB; (try clear hb); (try clear hb2); (try clear hk); (try clear hi); obtain ⟨hcz171_0, hcz171_1, hfz171_0, hfz171_1⟩ := zc2 BK781) | ((with_reducible refine gate_callee (f := 42) rfl ?_); refine gl (some 38) Try.func42 #[.agg #[.string t777, .slice Ao163 t778.length co163], .agg #[.string (⟨#[]⟩ : ByteArray), .slice none 0 0]] ?_; (refine (laws_wTube.calls kj2 t777 _ _ t778 (⟨#[]⟩ : ByteArray) _ _ ([] : List (S26)) true _ ?side1 ?side2 ?side3 ?side4 A154.out).mono ?_); (case side1 => exact sr HO780); (case side2 => exact (Kd.R_reads' HO780.out).2.1); (case side3 => exact Kd.C_nil _ _); (case side4 => exact Nat.le_refl _); rintro e w172 ⟨rfl, hb⟩; refine ⟨_, rfl, ?_⟩; have _ := ra (Kd.R_below (rq HO774) hb); have _ := ra (Kd.R_below (rq HO780) hb); have _ := ra (Kd.R_below (rq HO785) hb); have _ := bb (bk BK776) hb; have _ := bb (bk BK781) hb; have _ := bs hb; clear HO774 HO780 HO785 BK776 BK781 HB; rename_i HO774 HO780 HO785 BK776 BK781 HB; (try clear hb); (try clear hb2); (try clear hk); (try clear hi)))
      go_ret
      exact ⟨re, bq⟩
    ·replace c10 := Bool.eq_false_iff.mpr c10
     subst c10
     have H1 : (some false) = some true := by rw [if_neg (show ¬ (false = true) by decide)] at H; exact H
     clear H
     have H := H1
     exact absurd (Option.some.inj H) (by decide)
end Go.Proofs.Ytfoapgcnjnogiaa.PA
