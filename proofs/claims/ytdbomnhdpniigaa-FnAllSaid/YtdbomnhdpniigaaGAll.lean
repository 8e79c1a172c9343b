/- Contracts of the functions impl_ProbeAll. (Began as a print of the kit's tool.) -/
import Derived.Test.YtdbomnhdpniigaaPAd
import Derived.Test.YtdbomnhdpniigaaCx
import Derived.Test.YtdbomnhdpniigaaCy
import Derived.Test.YtdbomnhdpniigaaGSky
import Derived.Test.YtdbomnhdpniigaaGMeet
namespace Go.Proofs.Ytdbomnhdpniigaa.PA
open Go.RowKit Go.Proofs.YtdbomnhdpniigaaW.PrintWords Go.Proofs.YtdbomnhdpniigaaW.PrintLast Go.Proofs.YtdbomnhdpniigaaW.PrintMore Go.Proofs.Ytdbomnhdpniigaa.Z
attribute [local go_sem] max2_int min2_int max_two min_two max_three min_three max_four min_four
set_option linter.unusedVariables false
set_option linter.unusedSimpArgs false
set_option maxHeartbeats 8000000 in
set_option maxRecDepth 100000 in
theorem impl_ProbeAll.calls (k : Nat) (A0 : Option Addr) (c0 : Nat) (l0 : List (S40)) (r : List (S49)) (w : World) (hr0 : Kd.C k40 w A0 l0.length l0) (hc0 : l0.length ≤ c0) (h : impl_ProbeAll.f k l0 = some r) :
  Calls Try.prog 12 #[.slice A0 l0.length c0] w fun e w' => ∃ v0_ : Value, e = .returned (v0_) ∧ Kd.R k49 49 w' w.heap.size (fun _ => True) v0_ r ∧ Below w.heap.size w w' := by
 have hu40 := Try.underlying40
 have hu49 := Try.underlying49
 have HR0 := Aside0.mk hr0
 have HC0 := Aside0.mk hc0
 clear hr0 hc0
 have HB := ra (Below.refl w.heap.size w)
 have H : ((impl_ProbeSkyOk.f k l0).bind fun t206 => (if t206 = true then (impl_ProbeAll.l0 k l0 (([] : List (S49))) l0 (l0.length : Int) 0) else (some ([] : List (S49))))) = some r := h
 clear h
 obtain ⟨t206, A2, H⟩ := bo H
 by_cases c3 : t206 = true
 ·subst c3
  replace H := it H rfl
  obtain ⟨y207, hy_⟩ : ∃ y_ : List (S49), y_ = (([] : List (S49))) := ⟨_, rfl⟩
  replace H : (impl_ProbeAll.l0 k l0 y207 l0 (l0.length : Int) 0) = some r := yh
  have Ny207 := ra hy_
  clear hy_
  have H' := Aside0.mk H
  clear H
  go_enter Try.func12, Try.ntmps12
  go_wp2_with (first | ((with_reducible refine gate_callee (f := 26) rfl ?_); refine gl (some 11) Try.func26 #[.slice A0 l0.length c0] ?_; (with_reducible refine (impl_ProbeSkyOk.calls k _ _ l0 true _ ?side1 ?side2 A2.out).mono ?_); (case side1 => repeat (first | exact HR0.out | (with_reducible refine Kd.C_alloc ?_ _) | (with_reducible refine Kd.C_drewN ?_ _) | (with_reducible refine Kd.C_drew ?_))); (case side2 => exact HC0.out); rintro e w4 ⟨rfl, hb⟩; refine ⟨_, rfl, ?_⟩; have _ := bs hb; clear HB; rename_i HB; (try clear hb); (try clear hb2); (try clear hk); (try clear hi)) | ((with_reducible refine gate_dst (N := 13) rfl ?_); refine Kd.R_lit k49 _ 49 ?hg (N := 13) ?hd (xs := ([] : List (S49))) (inner := []) (ok := fun _ => True) (okp := fun _ => True) ?hr ?hp (fun _ hk => hk) trivial (Below.refl _ _) (Nat.le_refl _) (by simp) ?_; (case hd => rfl); (case hg => rfl); (case hr => first | (go_simp; done) | (go_simp; rfl)); (case hp => exact (Reps.none _ _)); intro v208 w5 ho6 hb hg_ hnew_; clear hg_ hnew_; (first | rw [← Ny207.out] at ho6 | (simp only [Int.reduceToNat] at ho6; rw [← Ny207.out] at ho6)); have _ := ra (Kd.R_lower ho6 (below_size bq)); have _ := bs hb; clear HB; rename_i HO209 HB; clear hb ho6))
  go_loopg [3, 16] k (fun kq v3 v16 w' => ∃ (x3_1 : List (S49)) (x16_1 : Int), v16 = .int .i64 x16_1 ∧ Aside0 (impl_ProbeAll.l0 kq l0 x3_1 l0 (l0.length : Int) x16_1 = some r) ∧ Aside0 (kq ≤ k) ∧ Aside0 (Kd.R k49 49 w' w.heap.size (fun _ => True) v3 x3_1) ∧ Aside0 (Below w.heap.size w w'))
  case atStart => exact ⟨(y207), (0), rs, H', ⟨Nat.le_refl _⟩, ⟨rq HO209⟩, ⟨bq⟩⟩
  case round =>
   clear H'
   try clear c1
   try clear c3
   obtain ⟨x3_1, x16_1, rfl, HA, HK1, HO_3, HB⟩ := hrel
   cases gk with
   | zero => exact absurd HA.out (by simp [impl_ProbeAll.l0])
   | succ k1 =>
    have H := HA.out
    clear HA
    simp only [impl_ProbeAll.l0] at H
    by_cases c7 : x16_1 < (l0.length : Int)
    ·rw [if_pos c7] at H
     have c7b0 : decide (x16_1 < (l0.length : Int)) = true := decide_eq_true c7
     clear c7
     by_cases c8 : 0 ≤ x16_1
     ·rw [if_pos c8] at H
      have c8b0 : decide (0 ≤ x16_1) = true := decide_eq_true c8
      clear c8
      by_cases c9 : x16_1 < (l0.length : Int)
      ·rw [if_pos c9] at H
       have c9b0 : decide (x16_1 < (l0.length : Int)) = true := decide_eq_true c9
       clear c9
       obtain ⟨ji10, hji10⟩ : ∃ j_ : Int, (wrap64 (x16_1 + 1)) = j_ := ⟨_, rfl⟩
       replace H : (if 0 ≤ (ji10) then (if (ji10) ≤ (l0.length : Int) then ((some (l0.drop ((ji10) : Int).toNat : List (S40))).bind fun y212 => (impl_ProbeAll.l1 k1 l0 x3_1 l0 (l0.length : Int) x16_1 y212 (y212.length : Int) 0 ((rd_T40 l0 x16_1).f0) ((rd_T40 l0 x16_1).f1))) else (none)) else (none)) = some r := by first | (rw [hji10] at H; exact H) | (simp only [hji10] at H ⊢; exact H)
       have hji10w : (IntKind.i64.wrap (x16_1 + 1)) = ji10 := (i64_w _).trans hji10
       by_cases c11 : 0 ≤ (ji10)
       ·rw [if_pos c11] at H
        have c11b0 := eq_true c11
        have c11b1 : decide (0 ≤ (ji10)) = true := decide_eq_true c11
        clear c11
        by_cases c12 : (ji10) ≤ (l0.length : Int)
        ·rw [if_pos c12] at H
         have c12b0 := eq_true c12
         have c12b1 : decide ((ji10) ≤ (l0.length : Int)) = true := decide_eq_true c12
         clear c12
         obtain ⟨y212, hy_⟩ : ∃ y_ : List (S40), y_ = (l0.drop ((ji10) : Int).toNat) := ⟨_, rfl⟩
         replace H : (impl_ProbeAll.l1 k1 l0 x3_1 l0 (l0.length : Int) x16_1 y212 (y212.length : Int) 0 ((rd_T40 l0 x16_1).f0) ((rd_T40 l0 x16_1).f1)) = some r := yh
         have Ny212 := ra hy_
         clear hy_
         have H' := Aside0.mk H
         clear H
         have p210 : 0 ≤ (x16_1 : Int) := od
         have q210 : x16_1 < (l0.length : Int) := od
         obtain ⟨ad210, A210_1, c210_1, e210, hx210_0, hx210_1, hl210_1, hi210_1⟩ := at_T40 HR0.out x16_1 p210 q210
         cases e210
         replace hx210_0 := hc HB hx210_0
         replace hx210_1 := hc HB hx210_1
         have HR210_1 := Aside0.mk hi210_1
         have HC210_1 := Aside0.mk hl210_1
         clear hi210_1 hl210_1
         replace p210 := eq_true p210
         replace q210 := eq_true q210
         go_wp2_with (first | ((with_reducible refine gate_dst (N := 5) rfl ?_); refine be 5 #[.string (⟨#[]⟩ : ByteArray), .slice none 0 0] 40 ?_; intro gb211 hg w13 hbox hb; have _ := ra (Kd.R_below (rq HO_3) hb); have _ := bs hb; have _ := ra (hbox); have _ := bz (w0 := w) hg; have _ := bz (w0 := w) hg; clear HO_3 HB; rename_i HO_3 HB BK211 GW211 GE211; clear hb hbox hg; obtain ⟨hcz14_0, hcz14_1, hfz14_0, hfz14_1⟩ := zc2 BK211) | ((with_reducible refine gate_store (t := 40) (p := 5) rfl ?_); refine store_event (t := 40) (p := 5) (v := ?vo_w15) (w1 := ((w13.setCell ⟨gb211, 0, none⟩ (.string ((rd_T40 l0 x16_1).f0))).setCell ⟨gb211, 1, none⟩ (.slice A210_1 ((rd_T40 l0 x16_1).f1).length c210_1))) ?hg ?ho ?hn ?hr ?_; (case ho => rfl); (case hg => rfl); (case hn => rfl); (case hr => first | (go_simp; done) | (go_simp; rfl)); intro w15 hw; have _ : Aside0 (Kd.R k49 49 w15 w.heap.size (fun _ => True) u3 x3_1) := ⟨(by rw [hw]; exact (by (with_reducible repeat (first | apply Kd.R_alloc | apply Kd.R_drewN | apply Kd.R_drew)); exact Kd.R_mono (rf (Kd.R_types HO_3.out BK211.out (by decide))) (fun _ hk => trivial)))⟩; have _ : Aside0 (w15.heap[gb211]? = some (.cells #[.string ((rd_T40 l0 x16_1).f0), .slice A210_1 ((rd_T40 l0 x16_1).f1).length c210_1] 40 (0, 0))) := ⟨(by rw [hw]; exact (bp BK211))⟩; have _ : Aside0 (Below w.heap.size w w15) := ⟨(by rw [hw]; exact bq)⟩; clear hw HO_3 BK211 HB; rename_i HO_3 BK211 HB; have q16 : ((ji10) : Int) ≤ ((l0.length : Int) : Int) := od; obtain ⟨i016, hi016, _, hsz16, _⟩ := info_parts info40; have hroom16 : l0.length ≤ c0 := HC0.out; have hC16 : Kd.C k40 _ (some ad210) l0.length l0 := HR0.out; have q016 : (0 : Int) ≤ ((ji10) : Int) := od; have hcut16 := cut_from (P := Try.prog) 26 40 .i64 Try.underlying26 hi016 2 hsz16 (some ad210) l0.length c0 (ji10) q016 q16; have hr16 := Kd.C_drop (m := ((ji10) : Int).toNat) (c := c0) hC16 (by omega) hroom16; obtain ⟨A16, hA16⟩ : ∃ A1, A1 = (if c0 = ((ji10) : Int).toNat then (some ad210) else ((some ad210) : Option Addr).map (·.add (((ji10) : Int).toNat * 2))) := ⟨_, rfl⟩; obtain ⟨c16, hc16⟩ : ∃ c1, c1 = c0 - ((ji10) : Int).toNat := ⟨_, rfl⟩; have hy16 : y212.length = l0.length - ((ji10) : Int).toNat := (by rw [Ny212.out, List.length_drop] <;> omega); rw [show (l0).drop ((ji10) : Int).toNat = y212 from Ny212.out.symm] at hr16; replace hr16 : Kd.C k40 _ A16 y212.length y212 := (by rw [hA16]; exact hr16); rw [← hy16, ← hA16, ← hc16] at hcut16; have HR215 := Aside0.mk hr16; have HC215 := ra (show y212.length ≤ c16 from by rw [hy16, hc16]; exact Nat.sub_le_sub_right hroom16 _); clear hr16 hC16 hroom16 hi016 hsz16 hc16; have KY16 := Aside0.mk hy16; have KA16 := Aside0.mk hA16; clear hy16 hA16; replace q16 := eq_true q16))
         go_loopg [3, 26] k1 (fun kq v3 v26 w' => ∃ (x3_2 : List (S49)) (x26_2 : Int), v26 = .int .i64 x26_2 ∧ Aside0 (impl_ProbeAll.l1 kq l0 x3_2 l0 (l0.length : Int) x16_1 y212 (y212.length : Int) x26_2 ((rd_T40 l0 x16_1).f0) ((rd_T40 l0 x16_1).f1) = some r) ∧ Aside0 (kq ≤ k1) ∧ Aside0 (Kd.R k49 49 w' w.heap.size (fun _ => True) v3 x3_2) ∧ Aside0 (w'.heap[gb211]? = some (.cells #[.string ((rd_T40 l0 x16_1).f0), (.slice A210_1 ((rd_T40 l0 x16_1).f1).length c210_1)] 40 (0, 0))) ∧ Aside0 (Below w.heap.size w w'))
         case atStart => exact ⟨(x3_1), (0), rs, H', ⟨Nat.le_refl _⟩, ⟨rq HO_3⟩, ⟨bk BK211⟩, ⟨bq⟩⟩
         case round =>
          clear H'
          try clear c1
          try clear c3
          try clear c7
          try clear c7b0
          try clear c8
          try clear c8b0
          try clear c9
          try clear c9b0
          try clear c11
          try clear c11b0
          try clear c11b1
          try clear c12
          try clear c12b0
          try clear c12b1
          try clear c16
          try clear q16
          try clear hcz14_0
          try clear hcz14_1
          try clear hfz14_0
          try clear hfz14_1
          try clear hx210_0
          try clear hx210_1
          try clear p210
          try clear q016
          try clear q16
          try clear q210
          obtain ⟨x3_2, x26_2, rfl, HA, HK2, HO_3, BK211, HB⟩ := hrel
          cases gk with
          | zero => exact absurd HA.out (by simp [impl_ProbeAll.l1])
          | succ k2 =>
           have H := HA.out
           clear HA
           simp only [impl_ProbeAll.l1] at H
           by_cases c17 : x26_2 < (y212.length : Int)
           ·rw [if_pos c17] at H
            have c17b0 : decide (x26_2 < (y212.length : Int)) = true := decide_eq_true c17
            clear c17
            by_cases c18 : 0 ≤ x26_2
            ·rw [if_pos c18] at H
             have c18b0 : decide (0 ≤ x26_2) = true := decide_eq_true c18
             clear c18
             by_cases c19 : x26_2 < (y212.length : Int)
             ·rw [if_pos c19] at H
              have c19b0 : decide (x26_2 < (y212.length : Int)) = true := decide_eq_true c19
              clear c19
              obtain ⟨⟨t218, t219, t220, t221, t222, t223⟩, A20, H⟩ := bo H
              try dsimp only at H
              by_cases c21 : t223 = true
              ·subst c21
               replace H := it H rfl
               by_cases c22 : x3_2.length < 2513169434916
               ·rw [if_pos c22] at H
                have LMc22 := Aside0.mk c22
                clear c22
                obtain ⟨y225, hy_⟩ : ∃ y_ : List (S49), y_ = (x3_2 ++ [(⟨t218, t219, t220, t221, t222⟩ : S49)]) := ⟨_, rfl⟩
                replace H : (impl_ProbeAll.l1 k2 l0 y225 l0 (l0.length : Int) x16_1 y212 (y212.length : Int) (wrap64 (x26_2 + 1)) ((rd_T40 l0 x16_1).f0) ((rd_T40 l0 x16_1).f1)) = some r := yh
                have Ny225 := ra hy_
                clear hy_
                have H' := Aside0.mk H
                clear H
                have p216 : 0 ≤ (x26_2 : Int) := od
                have q216 : x26_2 < (y212.length : Int) := od
                obtain ⟨ad216, A216_1, c216_1, e216, hx216_0, hx216_1, hl216_1, hi216_1⟩ := at_T40 HR215.out x26_2 p216 q216
                cases e216
                replace hx216_0 := hc HB hx216_0
                replace hx216_1 := hc HB hx216_1
                have HR216_1 := Aside0.mk hi216_1
                have HC216_1 := Aside0.mk hl216_1
                clear hi216_1 hl216_1
                replace p216 := eq_true p216
                replace q216 := eq_true q216
                go_wp2_with (first | ((with_reducible refine gate_dst (N := 7) rfl ?_); refine be 7 #[.string (⟨#[]⟩ : ByteArray), .slice none 0 0] 40 ?_; intro gb217 hg w23 hbox hb; have _ := ra (Kd.R_below (rq HO_3) hb); have _ := bb (bk BK211) hb; have _ := bs hb; have _ := ra (hbox); have _ := bz (w0 := w) hg; have _ := bz (w0 := w) hg; have _ := bn hg (bk BK211); have _ := bm hg (bk BK211); clear HO_3 BK211 HB; rename_i HO_3 BK211 HB BK217 GW217 GE217 NB211_217 NB217_211; clear hb hbox hg; have hnb24 := NB217_211.out; have hnc24 := NB211_217.out; obtain ⟨hcz25_0, hcz25_1, hfz25_0, hfz25_1⟩ := zc2 BK217; obtain ⟨hcz26_0, hcz26_1, hfz26_0, hfz26_1⟩ := zc2 BK211) | ((with_reducible refine gate_callee (f := 46) rfl ?_); refine gl (some 33) Try.func46 #[.agg #[.string ((rd_T40 l0 x16_1).f0), .slice A210_1 ((rd_T40 l0 x16_1).f1).length c210_1], .agg #[.string ((rd_T40 y212 x26_2).f0), .slice A216_1 ((rd_T40 y212 x26_2).f1).length c216_1]] ?_; (with_reducible refine (impl_ProbeMeet.calls k2 ((rd_T40 l0 x16_1).f0) _ _ ((rd_T40 l0 x16_1).f1) ((rd_T40 y212 x26_2).f0) _ _ ((rd_T40 y212 x26_2).f1) t218 t219 t220 t221 t222 true _ ?side1 ?side2 ?side3 ?side4 A20.out).mono ?_); (case side1 => exact Kd.C_below HR210_1.out bq); (case side2 => exact HC210_1.out); (case side3 => exact Kd.C_below HR216_1.out bq); (case side4 => exact HC216_1.out); rintro e w27 ⟨rfl, hb⟩; refine ⟨_, rfl, ?_⟩; have _ := ra (Kd.R_below (Kd.R_mono (rf (Kd.R_types HO_3.out BK217.out (by decide))) (fun _ h_ => h_.1)) hb); have _ := bb (bk BK211) hb; have _ := bb (o := .cells #[.string ((rd_T40 y212 x26_2).f0), .slice A216_1 ((rd_T40 y212 x26_2).f1).length c216_1] 40 (0, 0)) (bp BK217) hb; have _ := bs hb; clear HO_3 BK211 BK217 HB; rename_i HO_3 BK211 BK217 HB; (try clear hb); (try clear hb2); (try clear hk); (try clear hi)) | ((with_reducible refine gate_dst (N := 8) rfl ?_); refine be 8 #[.string (⟨#[]⟩ : ByteArray), .string (⟨#[]⟩ : ByteArray), .int .i64 0, .int .i64 0, .int .i64 0] 49 ?_; intro gb224 hg w28 hbox hb; have _ := ra (Kd.R_below (Kd.R_elderB (rq HO_3) gb224 (Nat.le_of_eq hg.symm)) hb); have _ := bb (bk BK211) hb; have _ := bb (bk BK217) hb; have _ := bs hb; have _ := ra (hbox); have _ := bz (w0 := w) hg; have _ := bz (w0 := w) hg; have _ := bn hg (bk BK211); have _ := bm hg (bk BK211); have _ := bn hg (bk BK217); have _ := bm hg (bk BK217); clear HO_3 BK211 BK217 HB; rename_i HO_3 BK211 BK217 HB BK224 GW224 GE224 NB211_224 NB224_211 NB217_224 NB224_217; clear hb hbox hg; have hnb29 := NB224_211.out; have hnc29 := NB211_224.out; have hnb30 := NB224_217.out; have hnc30 := NB217_224.out; obtain ⟨hcz31_0, hcz31_1, hcz31_2, hcz31_3, hcz31_4, hfz31_0, hfz31_1, hfz31_2, hfz31_3, hfz31_4⟩ := zc5 BK224) | ((with_reducible refine gate_builtin (b := .append) (xs := #[.tmp 37, .tmp 39]) rfl ?_); at_builtin; refine Kd.R_append k49 (w0 := w) w.heap.size rfl (.tmp 37) (.tmp 39) 24 49 (.agg #[(.string ⟨#[]⟩), (.string ⟨#[]⟩), (.int .i64 0), (.int .i64 0), (.int .i64 0)]) 56 rfl Try.underlying24 info49 rfl (by decide) (by omega) u3 x3_2 (⟨t218, t219, t220, t221, t222⟩ : S49) [.string t218, .string t219, .int .i64 t220, .int .i64 t221, .int .i64 t222] (fun k_ => k_ ≠ gb224) (fun _ => False) rfl (by first | (go_simp; done) | (go_simp; rfl)) ?aP (fun _ hk => hk.elim) ?aF ?aO ?aB ?aS ?aL ?_; (case aP => exact k49_mkM _ _ _ (⟨t218, t219, t220, t221, t222⟩ : S49)); (case aB => exact bq); (case aF => exact (fun k_ hk => Kd.freshB (g := gb224) (o := .cells #[.string t218, .string t219, .int .i64 t220, .int .i64 t221, .int .i64 t222] 49 (0, 0)) (bp BK224) k_ hk)); (case aO => exact (by (with_reducible repeat (first | apply Kd.R_alloc | apply Kd.R_drewN | apply Kd.R_drew)); exact Kd.R_mono (rf (Kd.R_mono HO_3.out (fun k_ hk => (⟨hk, hk.2⟩ : _ ∧ k_ ≠ gb224)))) (fun _ hk => hk.1.2))); (case aS => exact (below_size bq)); (case aL => have := LMc22.out; omega); intro v226 w32 ho hb hg hat; rw [← Ny225.out] at ho; have _ := ra (blk_grown (g := gb211) (o := .cells #[.string ((rd_T40 l0 x16_1).f0), .slice A210_1 ((rd_T40 l0 x16_1).f1).length c210_1] 40 (0, 0)) (bk BK211) hg (Kd.R_ne HO_3.out BK211.out (by decide))); have _ := ra (blk_grown (g := gb217) (o := .cells #[.string ((rd_T40 y212 x26_2).f0), .slice A216_1 ((rd_T40 y212 x26_2).f1).length c216_1] 40 (0, 0)) (bk BK217) hg (Kd.R_ne HO_3.out BK217.out (by decide))); have _ := ra (blk_grown (g := gb224) (o := .cells #[.string t218, .string t219, .int .i64 t220, .int .i64 t221, .int .i64 t222] 49 (0, 0)) (bp BK224) hg (Kd.R_away HO_3.out (fun _ hk => hk.2))); have _ := ra (hb); have _ := ra (ho); clear BK211 BK217 BK224 HB HO_3; rename_i BK211 BK217 BK224 HB HO227; clear ho hb hg hat))
                go_roundg k2
                case measure => have := HK1.out; have := HK2.out; omega
                case rel => exact ⟨(y225), (wrap64 (x26_2 + 1)), rs, H', ⟨by have := HK1.out; have := HK2.out; omega⟩, ⟨by (with_reducible repeat (first | apply Kd.R_alloc | apply Kd.R_drewN | apply Kd.R_drew)); exact Kd.R_mono HO227.out (fun _ hk => trivial)⟩, ⟨bk BK211⟩, ⟨bq⟩⟩
               ·rw [if_neg c22] at H
                exact absurd H (by simp)
              ·replace c21 := Bool.eq_false_iff.mpr c21
               subst c21
               have H1 : (impl_ProbeAll.l1 k2 l0 x3_2 l0 (l0.length : Int) x16_1 y212 (y212.length : Int) (wrap64 (x26_2 + 1)) ((rd_T40 l0 x16_1).f0) ((rd_T40 l0 x16_1).f1)) = some r := by rw [if_neg (show ¬ (false = true) by decide)] at H; exact H
               clear H
               have H := H1
               clear H1
               have H' := Aside0.mk H
               clear H
               have p216 : 0 ≤ (x26_2 : Int) := od
               have q216 : x26_2 < (y212.length : Int) := od
               obtain ⟨ad216, A216_1, c216_1, e216, hx216_0, hx216_1, hl216_1, hi216_1⟩ := at_T40 HR215.out x26_2 p216 q216
               cases e216
               replace hx216_0 := hc HB hx216_0
               replace hx216_1 := hc HB hx216_1
               have HR216_1 := Aside0.mk hi216_1
               have HC216_1 := Aside0.mk hl216_1
               clear hi216_1 hl216_1
               replace p216 := eq_true p216
               replace q216 := eq_true q216
               go_wp2_with (first | ((with_reducible refine gate_dst (N := 7) rfl ?_); refine be 7 #[.string (⟨#[]⟩ : ByteArray), .slice none 0 0] 40 ?_; intro gb217 hg w33 hbox hb; have _ := ra (Kd.R_below (rq HO_3) hb); have _ := bb (bk BK211) hb; have _ := bs hb; have _ := ra (hbox); have _ := bz (w0 := w) hg; have _ := bz (w0 := w) hg; have _ := bn hg (bk BK211); have _ := bm hg (bk BK211); clear HO_3 BK211 HB; rename_i HO_3 BK211 HB BK217 GW217 GE217 NB211_217 NB217_211; clear hb hbox hg; have hnb34 := NB217_211.out; have hnc34 := NB211_217.out; obtain ⟨hcz35_0, hcz35_1, hfz35_0, hfz35_1⟩ := zc2 BK217; obtain ⟨hcz36_0, hcz36_1, hfz36_0, hfz36_1⟩ := zc2 BK211) | ((with_reducible refine gate_callee (f := 46) rfl ?_); refine gl (some 33) Try.func46 #[.agg #[.string ((rd_T40 l0 x16_1).f0), .slice A210_1 ((rd_T40 l0 x16_1).f1).length c210_1], .agg #[.string ((rd_T40 y212 x26_2).f0), .slice A216_1 ((rd_T40 y212 x26_2).f1).length c216_1]] ?_; (with_reducible refine (impl_ProbeMeet.calls k2 ((rd_T40 l0 x16_1).f0) _ _ ((rd_T40 l0 x16_1).f1) ((rd_T40 y212 x26_2).f0) _ _ ((rd_T40 y212 x26_2).f1) t218 t219 t220 t221 t222 false _ ?side1 ?side2 ?side3 ?side4 A20.out).mono ?_); (case side1 => exact Kd.C_below HR210_1.out bq); (case side2 => exact HC210_1.out); (case side3 => exact Kd.C_below HR216_1.out bq); (case side4 => exact HC216_1.out); rintro e w37 ⟨rfl, hb⟩; refine ⟨_, rfl, ?_⟩; have _ := ra (Kd.R_below (Kd.R_mono (rf (Kd.R_types HO_3.out BK217.out (by decide))) (fun _ h_ => h_.1)) hb); have _ := bb (bk BK211) hb; have _ := bb (o := .cells #[.string ((rd_T40 y212 x26_2).f0), .slice A216_1 ((rd_T40 y212 x26_2).f1).length c216_1] 40 (0, 0)) (bp BK217) hb; have _ := bs hb; clear HO_3 BK211 BK217 HB; rename_i HO_3 BK211 BK217 HB; (try clear hb); (try clear hb2); (try clear hk); (try clear hi)) | ((with_reducible refine gate_dst (N := 8) rfl ?_); refine be 8 #[.string (⟨#[]⟩ : ByteArray), .string (⟨#[]⟩ : ByteArray), .int .i64 0, .int .i64 0, .int .i64 0] 49 ?_; intro gb224 hg w38 hbox hb; have _ := ra (Kd.R_below (Kd.R_elderB (rq HO_3) gb224 (Nat.le_of_eq hg.symm)) hb); have _ := bb (bk BK211) hb; have _ := bb (bk BK217) hb; have _ := bs hb; have _ := ra (hbox); have _ := bz (w0 := w) hg; have _ := bz (w0 := w) hg; have _ := bn hg (bk BK211); have _ := bm hg (bk BK211); have _ := bn hg (bk BK217); have _ := bm hg (bk BK217); clear HO_3 BK211 BK217 HB; rename_i HO_3 BK211 BK217 HB BK224 GW224 GE224 NB211_224 NB224_211 NB217_224 NB224_217; clear hb hbox hg; have hnb39 := NB224_211.out; have hnc39 := NB211_224.out; have hnb40 := NB224_217.out; have hnc40 := NB217_224.out; obtain ⟨hcz41_0, hcz41_1, hcz41_2, hcz41_3, hcz41_4, hfz41_0, hfz41_1, hfz41_2, hfz41_3, hfz41_4⟩ := zc5 BK224))
               go_roundg k2
               case measure => have := HK1.out; have := HK2.out; omega
               case rel => exact ⟨(x3_2), (wrap64 (x26_2 + 1)), rs, H', ⟨by have := HK1.out; have := HK2.out; omega⟩, ⟨by (with_reducible repeat (first | apply Kd.R_alloc | apply Kd.R_drewN | apply Kd.R_drew)); exact Kd.R_mono (rf (Kd.R_mono HO_3.out (fun k_ hk => (⟨hk, hk.2⟩ : _ ∧ k_ ≠ gb224)))) (fun _ hk => trivial)⟩, ⟨bk BK211⟩, ⟨bq⟩⟩
             ·rw [if_neg c19] at H
              exact absurd H (by simp)
            ·rw [if_neg c18] at H
             exact absurd H (by simp)
           ·rw [if_neg c17] at H
            have c17b0 : decide (x26_2 < (y212.length : Int)) = false := decide_eq_false c17
            clear c17
            have H' := Aside0.mk H
            clear H
            go_wp2
            go_roundg k2
            case measure => have := HK1.out; have := HK2.out; omega
            case rel => exact ⟨(x3_2), (wrap64 (x16_1 + 1)), rs, H', ⟨by have := HK1.out; have := HK2.out; omega⟩, ⟨rq HO_3⟩, ⟨bq⟩⟩
        ·rw [if_neg c12] at H
         exact absurd H (by simp)
       ·rw [if_neg c11] at H
        exact absurd H (by simp)
      ·rw [if_neg c9] at H
       exact absurd H (by simp)
     ·rw [if_neg c8] at H
      exact absurd H (by simp)
    ·rw [if_neg c7] at H
     have c7b0 : decide (x16_1 < (l0.length : Int)) = false := decide_eq_false c7
     clear c7
     obtain rfl := Option.some.inj H
     go_wp2
     go_ret
     exact ⟨_, re, rq HO_3, bq⟩
 ·replace c3 := Bool.eq_false_iff.mpr c3
  subst c3
  have H1 : (some ([] : List (S49))) = some r := by rw [if_neg (show ¬ (false = true) by decide)] at H; exact H
  clear H
  have H := H1
  clear H1
  obtain rfl := Option.some.inj H
  go_enter Try.func12, Try.ntmps12
  go_wp2_with (first | ((with_reducible refine gate_callee (f := 26) rfl ?_); refine gl (some 11) Try.func26 #[.slice A0 l0.length c0] ?_; (with_reducible refine (impl_ProbeSkyOk.calls k _ _ l0 false _ ?side1 ?side2 A2.out).mono ?_); (case side1 => repeat (first | exact HR0.out | (with_reducible refine Kd.C_alloc ?_ _) | (with_reducible refine Kd.C_drewN ?_ _) | (with_reducible refine Kd.C_drew ?_))); (case side2 => exact HC0.out); rintro e w42 ⟨rfl, hb⟩; refine ⟨_, rfl, ?_⟩; have _ := bs hb; clear HB; rename_i HB; (try clear hb); (try clear hb2); (try clear hk); (try clear hi)))
  go_ret
  exact ⟨_, re, by first | exact Kd.R_nil _ _ _ _ _ | exact Kd.N_nil _ _ _ _ _ | exact Kd.V_nil _ _ _ _ _ | exact Kd.Q_nil _ _ _ _ _ | exact Kd.S_nil _ _ _ _ _, bq⟩
end Go.Proofs.Ytdbomnhdpniigaa.PA
