/- A contract of the function spec_l3Meet. (Began as a print of the kit's tool.) -/
import Derived.Test.YtfoapgcnjnogiaaPAd
import Derived.Test.YtfoapgcnjnogiaaCx
import Derived.Test.YtfoapgcnjnogiaaC51
namespace Go.Proofs.Ytfoapgcnjnogiaa.PA
open Go.RowKit Go.Proofs.YtfoapgcnjnogiaaW.PrintWords Go.Proofs.YtfoapgcnjnogiaaW.PrintLast Go.Proofs.YtfoapgcnjnogiaaW.PrintMore Go.Proofs.Ytfoapgcnjnogiaa.Z
attribute [local go_sem] max2_int min2_int max_two min_two max_three min_three max_four min_four
set_option linter.unusedVariables false
set_option linter.unusedSimpArgs false
def spec_l3Meet.T9 : Bool × List (List Nat × List Nat) := (true, [([], []), ([0], [0]), ([], []), ([1, 2], [1, 2]), ([3], [3]), ([], []), ([5], [5]), ([], []), ([6, 7], [6, 7]), ([8], [8]), ([4, 9], [4, 9]), ([10], [10]), ([11], [11]), ([11], [11]), ([12, 10, 0, 1, 2, 3, 4, 5, 6, 7, 8, 9, 10, 11, 12], [12]), ([13, 14, 0, 1, 2, 3, 4, 5, 6, 7, 8, 9, 10, 11, 12, 13, 14], [13])])
def spec_l3Meet.B9 : List Nat := [0, 1, 0, 7, 15, 0, 32, 0, 224, 480, 1023, 2047, 4095, 4095, 8191, 32767]
theorem spec_l3Meet.tab9 : rtab .any (opsOf Try.f58 9) = spec_l3Meet.T9 := by kernel_rfl
theorem spec_l3Meet.bits9 : waitsOk spec_l3Meet.T9.2 spec_l3Meet.B9 = true := by kernel_rfl
set_option maxHeartbeats 8000000 in
set_option maxRecDepth 100000 in
theorem spec_l3Meet.calls (k : Nat) (a0_0 : ByteArray) (A0_1 : Option Addr) (c0_1 : Nat) (l0_1 : List (S26)) (a1_0 : ByteArray) (A1_1 : Option Addr) (c1_1 : Nat) (l1_1 : List (S26)) (r1 : ByteArray) (r2 : ByteArray) (r3 : Int) (r4 : Int) (r5 : Int) (r6 : Bool) (w : World) (hr0_1 : Kd.C k26 w A0_1 l0_1.length l0_1) (hc0_1 : l0_1.length ≤ c0_1) (hr1_1 : Kd.C k26 w A1_1 l1_1.length l1_1) (hc1_1 : l1_1.length ≤ c1_1) (h : spec_l3Meet.f k a0_0 l0_1 a1_0 l1_1 = some (r1, r2, r3, r4, r5, r6)) :
    Calls Try.prog 58 #[.agg #[.string a0_0, .slice A0_1 l0_1.length c0_1], .agg #[.string a1_0, .slice A1_1 l1_1.length c1_1]] w fun e w' => e = .returned (.tuple #[.agg #[.string r1, .string r2, .int .i64 r3, .int .i64 r4, .int .i64 r5], .bool r6]) ∧ Below w.heap.size w w' := by
  have hu39 := Try.underlying39
  have hu52 := Try.underlying52
  have hu26 := Try.underlying26
  have HR0_1 := Aside0.mk hr0_1
  have HC0_1 := Aside0.mk hc0_1
  clear hr0_1 hc0_1
  have HR1_1 := Aside0.mk hr1_1
  have HC1_1 := Aside0.mk hc1_1
  clear hr1_1 hc1_1
  have HB := ra (Below.refl w.heap.size w)
  have H : (spec_l3Meet.l0 k false 0 a0_0 l0_1 a1_0 l1_1 (⟨#[]⟩ : ByteArray) (⟨#[]⟩ : ByteArray) 0 0 0) = some (r1, r2, r3, r4, r5, r6) := h
  clear h
  have H' := Aside0.mk H
  clear H
  go_enter Try.func58, Try.ntmps58
  go_wp2_with (first | ((with_reducible refine gate_dst (N := 2) rfl ?_); refine be 2 #[.string a0_0, .slice A0_1 l0_1.length c0_1] 39 ?_; intro gb317 hg w3 hbox hb; have n0 := bs hb; have n1 := ra (hbox); have n2 := bz (w0 := w) hg; have n3 := bz (w0 := w) hg; clear HB; have HB := n0; have BK317 := n1; have GW317 := n2; have GE317 := n3; clear n0 n1 n2 n3; clear hb hbox hg) | ((with_reducible refine gate_dst (N := 3) rfl ?_); refine be 3 #[.string a1_0, .slice A1_1 l1_1.length c1_1] 39 ?_; intro gb318 hg w4 hbox hb; have n0 := bb (bk BK317) hb; have n1 := bs hb; have n2 := ra (hbox); have n3 := bz (w0 := w) hg; have n4 := bz (w0 := w) hg; have n5 := bn hg (bk BK317); have n6 := bm hg (bk BK317); clear BK317 HB; have BK317 := n0; have HB := n1; have BK318 := n2; have GW318 := n3; have GE318 := n4; have NB317_318 := n5; have NB318_317 := n6; clear n0 n1 n2 n3 n4 n5 n6; clear hb hbox hg) | ((with_reducible refine gate_dst (N := 4) rfl ?_); refine be 4 #[.string (⟨#[]⟩ : ByteArray), .string (⟨#[]⟩ : ByteArray), .int .i64 0, .int .i64 0, .int .i64 0] 52 ?_; intro gb319 hg w5 hbox hb; have n0 := bb (bk BK317) hb; have n1 := bb (bk BK318) hb; have n2 := bs hb; have n3 := ra (hbox); have n4 := bz (w0 := w) hg; have n5 := bz (w0 := w) hg; have n6 := bn hg (bk BK317); have n7 := bm hg (bk BK317); have n8_ := bn hg (bk BK318); have n9_ := bm hg (bk BK318); clear BK317 BK318 HB; have BK317 := n0; have BK318 := n1; have HB := n2; have BK319 := n3; have GW319 := n4; have GE319 := n5; have NB317_319 := n6; have NB319_317 := n7; have NB318_319 := n8_; have NB319_318 := n9_; clear n0 n1 n2 n3 n4 n5 n6 n7 n8_ n9_; clear hb hbox hg) | ((with_reducible refine gate_dst (N := 6) rfl ?_); refine be 6 #[.string (⟨#[]⟩ : ByteArray), .string (⟨#[]⟩ : ByteArray), .int .i64 0, .int .i64 0, .int .i64 0] 52 ?_; intro gb320 hg w6 hbox hb; have n0 := bb (bk BK317) hb; have n1 := bb (bk BK318) hb; have n2 := bb (bk BK319) hb; have n3 := bs hb; have n4 := ra (hbox); have n5 := bz (w0 := w) hg; have n6 := bz (w0 := w) hg; have n7 := bn hg (bk BK317); have n8_ := bm hg (bk BK317); have n9_ := bn hg (bk BK318); have n10_ := bm hg (bk BK318); have n11_ := bn hg (bk BK319); have n12_ := bm hg (bk BK319); clear BK317 BK318 BK319 HB; have BK317 := n0; have BK318 := n1; have BK319 := n2; have HB := n3; have BK320 := n4; have GW320 := n5; have GE320 := n6; have NB317_320 := n7; have NB320_317 := n8_; have NB318_320 := n9_; have NB320_318 := n10_; have NB319_320 := n11_; have NB320_319 := n12_; clear n0 n1 n2 n3 n4 n5 n6 n7 n8_ n9_ n10_ n11_ n12_; clear hb hbox hg; have hnb7 := NB320_317.out; have hnc7 := NB317_320.out; have hnb8 := NB320_318.out; have hnc8 := NB318_320.out; have hnb9 := NB320_319.out; have hnc9 := NB319_320.out; obtain ⟨hcz10_0, hcz10_1, hcz10_2, hcz10_3, hcz10_4, hfz10_0, hfz10_1, hfz10_2, hfz10_3, hfz10_4⟩ := zc5 BK320))
  go_loopg [7, 8] k (fun kq v7 v8 w' => ∃ (x7_1 : Bool) (x8_1 : Int) (x321000_1 : ByteArray) (x321001_1 : ByteArray) (x321002_1 : Int) (x321003_1 : Int) (x321004_1 : Int), v7 = .bool x7_1 ∧ v8 = .int .i64 x8_1 ∧ Aside0 (spec_l3Meet.l0 kq x7_1 x8_1 a0_0 l0_1 a1_0 l1_1 x321000_1 x321001_1 x321002_1 x321003_1 x321004_1 = some (r1, r2, r3, r4, r5, r6)) ∧ Aside0 (kq ≤ k) ∧ Aside0 (w'.heap[gb317]? = some (.cells #[.string a0_0, (.slice A0_1 l0_1.length c0_1)] 39 (0, 0))) ∧ Aside0 (w'.heap[gb318]? = some (.cells #[.string a1_0, (.slice A1_1 l1_1.length c1_1)] 39 (0, 0))) ∧ Aside0 (w'.heap[gb319]? = some (.cells #[.string (⟨#[]⟩ : ByteArray), .string (⟨#[]⟩ : ByteArray), .int .i64 0, .int .i64 0, .int .i64 0] 52 (0, 0))) ∧ Aside0 (w'.heap[gb320]? = some (.cells #[.string x321000_1, .string x321001_1, .int .i64 x321002_1, .int .i64 x321003_1, .int .i64 x321004_1] 52 (0, 0))) ∧ Aside0 (Below w.heap.size w w'))
  case atStart => exact ⟨(false), (0), ((⟨#[]⟩ : ByteArray)), ((⟨#[]⟩ : ByteArray)), (0), (0), (0), rs, rs, H', ⟨Nat.le_refl _⟩, ⟨bk BK317⟩, ⟨bk BK318⟩, ⟨bk BK319⟩, ⟨bp BK320⟩, ⟨bq⟩⟩
  case round =>
    clear H'
    try clear hcz10_0
    try clear hcz10_1
    try clear hcz10_2
    try clear hcz10_3
    try clear hcz10_4
    try clear hfz10_0
    try clear hfz10_1
    try clear hfz10_2
    try clear hfz10_3
    try clear hfz10_4
    obtain ⟨x7_1, x8_1, x321000_1, x321001_1, x321002_1, x321003_1, x321004_1, rfl, rfl, HA, HK1, BK317, BK318, BK319, BK320, HB⟩ := hrel
    cases gk with
    | zero => exact absurd HA.out (by simp [spec_l3Meet.l0])
    | succ k1 =>
      have H := HA.out
      clear HA
      simp only [spec_l3Meet.l0] at H
      by_cases c11 : x8_1 < (l0_1.length : Int)
      · rw [if_pos c11] at H
        have c11b0 : decide (x8_1 < (l0_1.length : Int)) = true := decide_eq_true c11
        clear c11
        have H' := Aside0.mk H
        clear H
        have hnb12 := NB317_318.out
        have hnc12 := NB318_317.out
        have hnb13 := NB317_319.out
        have hnc13 := NB319_317.out
        have hnb14 := NB317_320.out
        have hnc14 := NB320_317.out
        obtain ⟨hcz15_0, hcz15_1, hfz15_0, hfz15_1⟩ := zc2 BK317
        go_wp2
        go_loopg [7, 9] k1 (fun kq v7 v9 w' => ∃ (x7_2 : Bool) (x9_2 : Int) (x321000_2 : ByteArray) (x321001_2 : ByteArray) (x321002_2 : Int) (x321003_2 : Int) (x321004_2 : Int), v7 = .bool x7_2 ∧ v9 = .int .i64 x9_2 ∧ Aside0 (spec_l3Meet.l1 kq x7_2 x8_1 x9_2 a0_0 l0_1 a1_0 l1_1 x321000_2 x321001_2 x321002_2 x321003_2 x321004_2 = some (r1, r2, r3, r4, r5, r6)) ∧ Aside0 (kq ≤ k1) ∧ Aside0 (w'.heap[gb317]? = some (.cells #[.string a0_0, (.slice A0_1 l0_1.length c0_1)] 39 (0, 0))) ∧ Aside0 (w'.heap[gb318]? = some (.cells #[.string a1_0, (.slice A1_1 l1_1.length c1_1)] 39 (0, 0))) ∧ Aside0 (w'.heap[gb319]? = some (.cells #[.string (⟨#[]⟩ : ByteArray), .string (⟨#[]⟩ : ByteArray), .int .i64 0, .int .i64 0, .int .i64 0] 52 (0, 0))) ∧ Aside0 (w'.heap[gb320]? = some (.cells #[.string x321000_2, .string x321001_2, .int .i64 x321002_2, .int .i64 x321003_2, .int .i64 x321004_2] 52 (0, 0))) ∧ Aside0 (Below w.heap.size w w'))
        case atStart => exact ⟨(x7_1), (0), (x321000_1), (x321001_1), (x321002_1), (x321003_1), (x321004_1), rs, rs, H', ⟨Nat.le_refl _⟩, ⟨bk BK317⟩, ⟨bk BK318⟩, ⟨bk BK319⟩, ⟨bk BK320⟩, ⟨bq⟩⟩
        case round =>
          clear H'
          try clear c11
          try clear c11b0
          try clear hcz10_0
          try clear hcz10_1
          try clear hcz10_2
          try clear hcz10_3
          try clear hcz10_4
          try clear hcz15_0
          try clear hcz15_1
          try clear hfz10_0
          try clear hfz10_1
          try clear hfz10_2
          try clear hfz10_3
          try clear hfz10_4
          try clear hfz15_0
          try clear hfz15_1
          obtain ⟨x7_2, x9_2, x321000_2, x321001_2, x321002_2, x321003_2, x321004_2, rfl, rfl, HA, HK2, BK317, BK318, BK319, BK320, HB⟩ := hrel
          cases gk with
          | zero => exact absurd HA.out (by simp [spec_l3Meet.l1])
          | succ k2 =>
            have H := HA.out
            clear HA
            simp only [spec_l3Meet.l1] at H
            by_cases c16 : x9_2 < (l1_1.length : Int)
            · rw [if_pos c16] at H
              have c16b0 : decide (x9_2 < (l1_1.length : Int)) = true := decide_eq_true c16
              clear c16
              by_cases c17 : 0 ≤ x8_1
              · rw [if_pos c17] at H
                have c17b0 : decide (0 ≤ x8_1) = true := decide_eq_true c17
                clear c17
                by_cases c18 : x8_1 < (l0_1.length : Int)
                · rw [if_pos c18] at H
                  have c18b0 : decide (x8_1 < (l0_1.length : Int)) = true := decide_eq_true c18
                  clear c18
                  by_cases c19 : 0 ≤ x9_2
                  · rw [if_pos c19] at H
                    have c19b0 : decide (0 ≤ x9_2) = true := decide_eq_true c19
                    clear c19
                    obtain ⟨⟨t323, t324⟩, A20, H⟩ := bo H
                    try dsimp only at H
                    by_cases c21 : t324 = true
                    · subst c21
                      replace H := it H rfl
                      by_cases c22 : x7_2 = true
                      · subst c22
                        replace H := it H rfl
                        by_cases c23 : t323 < x321002_2
                        · rw [if_pos c23] at H
                          have c23b0 : decide (t323 < x321002_2) = true := decide_eq_true c23
                          clear c23
                          have H' := Aside0.mk H
                          clear H
                          have hnb24 := NB318_317.out
                          have hnc24 := NB317_318.out
                          have hnb25 := NB318_319.out
                          have hnc25 := NB319_318.out
                          have hnb26 := NB318_320.out
                          have hnc26 := NB320_318.out
                          obtain ⟨hcz27_0, hcz27_1, hfz27_0, hfz27_1⟩ := zc2 BK318
                          try go_wp2
                          have n0 := ra (blk_drew BK317.out)
                          have n1 := ra (blk_drew BK318.out)
                          have n2 := ra (blk_drew BK319.out)
                          have n3 := ra (blk_drew BK320.out)
                          have n4 := ra (below_drew1 HB.out)
                          clear BK317 BK318 BK319 BK320 HB
                          have BK317 := n0
                          have BK318 := n1
                          have BK319 := n2
                          have BK320 := n3
                          have HB := n4
                          clear n0 n1 n2 n3 n4
                          have p321 : 0 ≤ (x8_1 : Int) := od
                          have q321 : x8_1 < (l0_1.length : Int) := od
                          obtain ⟨ad321, e321, hx321_0, hx321_1, hx321_2, hx321_3, hx321_4, hx321_5⟩ := at_T26 HR0_1.out x8_1 p321 q321
                          have hw321_5 := hx321_5
                          have hw321_4 := hx321_4
                          have hw321_3 := hx321_3
                          have hw321_2 := hx321_2
                          have hw321_1 := hx321_1
                          have hw321_0 := hx321_0
                          cases e321
                          replace hx321_0 := hc HB hx321_0
                          replace hx321_1 := hc HB hx321_1
                          replace hx321_2 := hc HB hx321_2
                          replace hx321_3 := hc HB hx321_3
                          replace hx321_4 := hc HB hx321_4
                          replace hx321_5 := hc HB hx321_5
                          replace p321 := eq_true p321
                          replace q321 := eq_true q321
                          have p322 : 0 ≤ (x9_2 : Int) := od
                          have q322 : x9_2 < (l1_1.length : Int) := od
                          obtain ⟨ad322, e322, hx322_0, hx322_1, hx322_2, hx322_3, hx322_4, hx322_5⟩ := at_T26 HR1_1.out x9_2 p322 q322
                          have hw322_5 := hx322_5
                          have hw322_4 := hx322_4
                          have hw322_3 := hx322_3
                          have hw322_2 := hx322_2
                          have hw322_1 := hx322_1
                          have hw322_0 := hx322_0
                          cases e322
                          replace hx322_0 := hc HB hx322_0
                          replace hx322_1 := hc HB hx322_1
                          replace hx322_2 := hc HB hx322_2
                          replace hx322_3 := hc HB hx322_3
                          replace hx322_4 := hc HB hx322_4
                          replace hx322_5 := hc HB hx322_5
                          replace p322 := eq_true p322
                          replace q322 := eq_true q322
                          refine start_ (n := 16) (S := fun w' => w'.cell? ⟨gb317, 0, none⟩ = some (.string a0_0) ∧ w'.cell? ⟨gb317, 1, none⟩ = some (.slice (some ad321) l0_1.length c0_1) ∧ w'.cell? ⟨gb318, 0, none⟩ = some (.string a1_0) ∧ w'.cell? ⟨gb318, 1, none⟩ = some (.slice (some ad322) l1_1.length c1_1) ∧ w'.cell? (ad321.add ((x8_1).toNat * 6)) = some (.int .i64 ((rd_T26 l0_1 x8_1).f0)) ∧ w'.cell? ⟨(ad321.add ((x8_1).toNat * 6)).block, (ad321.add ((x8_1).toNat * 6)).off + 1, none⟩ = some (.int .i64 ((rd_T26 l0_1 x8_1).f1)) ∧ w'.cell? ⟨(ad321.add ((x8_1).toNat * 6)).block, (ad321.add ((x8_1).toNat * 6)).off + 2, none⟩ = some (.int .i64 ((rd_T26 l0_1 x8_1).f2)) ∧ w'.cell? ⟨(ad321.add ((x8_1).toNat * 6)).block, (ad321.add ((x8_1).toNat * 6)).off + 3, none⟩ = some (.int .i64 ((rd_T26 l0_1 x8_1).f3)) ∧ w'.cell? ⟨(ad321.add ((x8_1).toNat * 6)).block, (ad321.add ((x8_1).toNat * 6)).off + 4, none⟩ = some (.int .i64 ((rd_T26 l0_1 x8_1).f4)) ∧ w'.cell? ⟨(ad321.add ((x8_1).toNat * 6)).block, (ad321.add ((x8_1).toNat * 6)).off + 5, none⟩ = some (.int .i64 ((rd_T26 l0_1 x8_1).f5)) ∧ w'.cell? (ad322.add ((x9_2).toNat * 6)) = some (.int .i64 ((rd_T26 l1_1 x9_2).f0)) ∧ w'.cell? ⟨(ad322.add ((x9_2).toNat * 6)).block, (ad322.add ((x9_2).toNat * 6)).off + 1, none⟩ = some (.int .i64 ((rd_T26 l1_1 x9_2).f1)) ∧ w'.cell? ⟨(ad322.add ((x9_2).toNat * 6)).block, (ad322.add ((x9_2).toNat * 6)).off + 2, none⟩ = some (.int .i64 ((rd_T26 l1_1 x9_2).f2)) ∧ w'.cell? ⟨(ad322.add ((x9_2).toNat * 6)).block, (ad322.add ((x9_2).toNat * 6)).off + 3, none⟩ = some (.int .i64 ((rd_T26 l1_1 x9_2).f3)) ∧ w'.cell? ⟨(ad322.add ((x9_2).toNat * 6)).block, (ad322.add ((x9_2).toNat * 6)).off + 4, none⟩ = some (.int .i64 ((rd_T26 l1_1 x9_2).f4)) ∧ w'.cell? ⟨(ad322.add ((x9_2).toNat * 6)).block, (ad322.add ((x9_2).toNat * 6)).off + 5, none⟩ = some (.int .i64 ((rd_T26 l1_1 x9_2).f5))) (ds := []) (bl 16 0) (by kernel_rfl) rfl rfl ⟨(blk_cell BK317.out 0).trans rfl, (blk_cell BK317.out 1).trans rfl, (blk_cell BK318.out 0).trans rfl, (blk_cell BK318.out 1).trans rfl, (hc HB hw321_0), (hc HB hw321_1), (hc HB hw321_2), (hc HB hw321_3), (hc HB hw321_4), (hc HB hw321_5), (hc HB hw322_0), (hc HB hw322_1), (hc HB hw322_2), (hc HB hw322_3), (hc HB hw322_4), (hc HB hw322_5)⟩ (fun hHeld => ?_); refine with_tabW spec_l3Meet.tab9 spec_l3Meet.bits9 (fun HT_ HW_ => ?_)
                          generalize wr.drew = w28 at BK317 BK318 BK319 BK320 HB hx321_0 hx321_1 hx321_2 hx321_3 hx321_4 hx321_5 hx322_0 hx322_1 hx322_2 hx322_3 hx322_4 hx322_5 hHeld ⊢
                          refine pu 0 28 (bl 16 1) ?_
                          refine pu 2 30 (bl 16 5) ?_
                          refine pu 5 33 (bl 16 37) ?_
                          refine pu 7 35 (bl 16 165) ?_
                          refine tk 1 29 (bl 16 167) ?_ hHeld
                          refine pu 3 31 (bl 16 175) ?_
                          refine tk 4 32 (bl 16 191) ?_ hHeld
                          refine tk 6 34 (bl 16 255) ?_ hHeld
                          refine pu 8 36 (bl 16 511) ?_
                          refine tk 9 37 (bl 16 1023) ?_ hHeld
                          refine oe 10 38 (bl 16 2047) (fun K hK => ?_)
                          refine gs Try.func51 #[.agg #[.int .i64 ((rd_T26 l0_1 x8_1).f0), .int .i64 ((rd_T26 l0_1 x8_1).f1), .int .i64 ((rd_T26 l0_1 x8_1).f2), .int .i64 ((rd_T26 l0_1 x8_1).f3), .int .i64 ((rd_T26 l0_1 x8_1).f4), .int .i64 ((rd_T26 l0_1 x8_1).f5)], .agg #[.int .i64 ((rd_T26 l1_1 x9_2).f0), .int .i64 ((rd_T26 l1_1 x9_2).f1), .int .i64 ((rd_T26 l1_1 x9_2).f2), .int .i64 ((rd_T26 l1_1 x9_2).f3), .int .i64 ((rd_T26 l1_1 x9_2).f4), .int .i64 ((rd_T26 l1_1 x9_2).f5)]] ?_
                          with_reducible refine (spec_l1Close.calls k2 ((rd_T26 l0_1 x8_1).f0) ((rd_T26 l0_1 x8_1).f1) ((rd_T26 l0_1 x8_1).f2) ((rd_T26 l0_1 x8_1).f3) ((rd_T26 l0_1 x8_1).f4) ((rd_T26 l0_1 x8_1).f5) ((rd_T26 l1_1 x9_2).f0) ((rd_T26 l1_1 x9_2).f1) ((rd_T26 l1_1 x9_2).f2) ((rd_T26 l1_1 x9_2).f3) ((rd_T26 l1_1 x9_2).f4) ((rd_T26 l1_1 x9_2).f5) t323 true _ A20.out).mono ?_
                          rintro e w29 ⟨rfl, hb⟩
                          refine ⟨_, rfl, ?_⟩
                          have n0 := bb (bk BK317) hb
                          have n1 := bb (bk BK318) hb
                          have n2 := bb (bk BK319) hb
                          have n3 := bb (bk BK320) hb
                          have n4 := bs hb
                          clear BK317 BK318 BK319 BK320 HB
                          have BK317 := n0
                          have BK318 := n1
                          have BK319 := n2
                          have BK320 := n3
                          have HB := n4
                          clear n0 n1 n2 n3 n4
                          (try clear hb)
                          (try clear hb2)
                          (try clear hk)
                          (try clear hi)
                          refine hK.out _ _ ⟨(blk_cell BK317.out 0).trans rfl, (blk_cell BK317.out 1).trans rfl, (blk_cell BK318.out 0).trans rfl, (blk_cell BK318.out 1).trans rfl, (hc HB hw321_0), (hc HB hw321_1), (hc HB hw321_2), (hc HB hw321_3), (hc HB hw321_4), (hc HB hw321_5), (hc HB hw322_0), (hc HB hw322_1), (hc HB hw322_2), (hc HB hw322_3), (hc HB hw322_4), (hc HB hw322_5)⟩ (fun hHeld => ?_)
                          clear hK K
                          refine nm 38 ?_
                          refine pu 11 27 (bl 16 4095) ?_
                          refine pu 12 39 (bl 16 8191) ?_
                          refine pu 13 40 (bl 16 16383) ?_
                          refine pu 14 10 (bl 16 32767) ?_
                          refine pu 15 11 (bl 16 65535) ?_
                          refine done_ (done_of HT_.out (by kernel_rfl)) ?_
                          have hnb30 := NB320_317.out
                          have hnc30 := NB317_320.out
                          have hnb31 := NB320_319.out
                          have hnc31 := NB319_320.out
                          obtain ⟨hcz32_0, hcz32_1, hcz32_2, hcz32_3, hcz32_4, hfz32_0, hfz32_1, hfz32_2, hfz32_3, hfz32_4⟩ := zc5 BK320
                          have hnb33 := NB317_319.out
                          have hnc33 := NB319_317.out
                          obtain ⟨hcz34_0, hcz34_1, hfz34_0, hfz34_1⟩ := zc2 BK317
                          obtain ⟨hcz35_0, hcz35_1, hfz35_0, hfz35_1⟩ := zc2 BK318
                          try go_wp2
                          go_roundg k2
                          case measure => have := HK1.out; have := HK2.out; omega
                          case rel => exact ⟨(true), (wrap64 (x9_2 + 1)), (a0_0), (a1_0), (t323), (x8_1), (x9_2), rs, rs, H', ⟨by have := HK1.out; have := HK2.out; omega⟩, ⟨bk BK317⟩, ⟨bk BK318⟩, ⟨bk BK319⟩, ⟨bp BK320⟩, ⟨bq⟩⟩
                        · rw [if_neg c23] at H
                          have c23b0 : decide (t323 < x321002_2) = false := decide_eq_false c23
                          clear c23
                          have H' := Aside0.mk H
                          clear H
                          have hnb36 := NB318_317.out
                          have hnc36 := NB317_318.out
                          have hnb37 := NB318_319.out
                          have hnc37 := NB319_318.out
                          have hnb38 := NB318_320.out
                          have hnc38 := NB320_318.out
                          obtain ⟨hcz39_0, hcz39_1, hfz39_0, hfz39_1⟩ := zc2 BK318
                          try go_wp2
                          have n0 := ra (blk_drew BK317.out)
                          have n1 := ra (blk_drew BK318.out)
                          have n2 := ra (blk_drew BK319.out)
                          have n3 := ra (blk_drew BK320.out)
                          have n4 := ra (below_drew1 HB.out)
                          clear BK317 BK318 BK319 BK320 HB
                          have BK317 := n0
                          have BK318 := n1
                          have BK319 := n2
                          have BK320 := n3
                          have HB := n4
                          clear n0 n1 n2 n3 n4
                          have p321 : 0 ≤ (x8_1 : Int) := od
                          have q321 : x8_1 < (l0_1.length : Int) := od
                          obtain ⟨ad321, e321, hx321_0, hx321_1, hx321_2, hx321_3, hx321_4, hx321_5⟩ := at_T26 HR0_1.out x8_1 p321 q321
                          have hw321_5 := hx321_5
                          have hw321_4 := hx321_4
                          have hw321_3 := hx321_3
                          have hw321_2 := hx321_2
                          have hw321_1 := hx321_1
                          have hw321_0 := hx321_0
                          cases e321
                          replace hx321_0 := hc HB hx321_0
                          replace hx321_1 := hc HB hx321_1
                          replace hx321_2 := hc HB hx321_2
                          replace hx321_3 := hc HB hx321_3
                          replace hx321_4 := hc HB hx321_4
                          replace hx321_5 := hc HB hx321_5
                          replace p321 := eq_true p321
                          replace q321 := eq_true q321
                          have p322 : 0 ≤ (x9_2 : Int) := od
                          have q322 : x9_2 < (l1_1.length : Int) := od
                          obtain ⟨ad322, e322, hx322_0, hx322_1, hx322_2, hx322_3, hx322_4, hx322_5⟩ := at_T26 HR1_1.out x9_2 p322 q322
                          have hw322_5 := hx322_5
                          have hw322_4 := hx322_4
                          have hw322_3 := hx322_3
                          have hw322_2 := hx322_2
                          have hw322_1 := hx322_1
                          have hw322_0 := hx322_0
                          cases e322
                          replace hx322_0 := hc HB hx322_0
                          replace hx322_1 := hc HB hx322_1
                          replace hx322_2 := hc HB hx322_2
                          replace hx322_3 := hc HB hx322_3
                          replace hx322_4 := hc HB hx322_4
                          replace hx322_5 := hc HB hx322_5
                          replace p322 := eq_true p322
                          replace q322 := eq_true q322
                          refine start_ (n := 16) (S := fun w' => w'.cell? ⟨gb317, 0, none⟩ = some (.string a0_0) ∧ w'.cell? ⟨gb317, 1, none⟩ = some (.slice (some ad321) l0_1.length c0_1) ∧ w'.cell? ⟨gb318, 0, none⟩ = some (.string a1_0) ∧ w'.cell? ⟨gb318, 1, none⟩ = some (.slice (some ad322) l1_1.length c1_1) ∧ w'.cell? (ad321.add ((x8_1).toNat * 6)) = some (.int .i64 ((rd_T26 l0_1 x8_1).f0)) ∧ w'.cell? ⟨(ad321.add ((x8_1).toNat * 6)).block, (ad321.add ((x8_1).toNat * 6)).off + 1, none⟩ = some (.int .i64 ((rd_T26 l0_1 x8_1).f1)) ∧ w'.cell? ⟨(ad321.add ((x8_1).toNat * 6)).block, (ad321.add ((x8_1).toNat * 6)).off + 2, none⟩ = some (.int .i64 ((rd_T26 l0_1 x8_1).f2)) ∧ w'.cell? ⟨(ad321.add ((x8_1).toNat * 6)).block, (ad321.add ((x8_1).toNat * 6)).off + 3, none⟩ = some (.int .i64 ((rd_T26 l0_1 x8_1).f3)) ∧ w'.cell? ⟨(ad321.add ((x8_1).toNat * 6)).block, (ad321.add ((x8_1).toNat * 6)).off + 4, none⟩ = some (.int .i64 ((rd_T26 l0_1 x8_1).f4)) ∧ w'.cell? ⟨(ad321.add ((x8_1).toNat * 6)).block, (ad321.add ((x8_1).toNat * 6)).off + 5, none⟩ = some (.int .i64 ((rd_T26 l0_1 x8_1).f5)) ∧ w'.cell? (ad322.add ((x9_2).toNat * 6)) = some (.int .i64 ((rd_T26 l1_1 x9_2).f0)) ∧ w'.cell? ⟨(ad322.add ((x9_2).toNat * 6)).block, (ad322.add ((x9_2).toNat * 6)).off + 1, none⟩ = some (.int .i64 ((rd_T26 l1_1 x9_2).f1)) ∧ w'.cell? ⟨(ad322.add ((x9_2).toNat * 6)).block, (ad322.add ((x9_2).toNat * 6)).off + 2, none⟩ = some (.int .i64 ((rd_T26 l1_1 x9_2).f2)) ∧ w'.cell? ⟨(ad322.add ((x9_2).toNat * 6)).block, (ad322.add ((x9_2).toNat * 6)).off + 3, none⟩ = some (.int .i64 ((rd_T26 l1_1 x9_2).f3)) ∧ w'.cell? ⟨(ad322.add ((x9_2).toNat * 6)).block, (ad322.add ((x9_2).toNat * 6)).off + 4, none⟩ = some (.int .i64 ((rd_T26 l1_1 x9_2).f4)) ∧ w'.cell? ⟨(ad322.add ((x9_2).toNat * 6)).block, (ad322.add ((x9_2).toNat * 6)).off + 5, none⟩ = some (.int .i64 ((rd_T26 l1_1 x9_2).f5))) (ds := []) (bl 16 0) (by kernel_rfl) rfl rfl ⟨(blk_cell BK317.out 0).trans rfl, (blk_cell BK317.out 1).trans rfl, (blk_cell BK318.out 0).trans rfl, (blk_cell BK318.out 1).trans rfl, (hc HB hw321_0), (hc HB hw321_1), (hc HB hw321_2), (hc HB hw321_3), (hc HB hw321_4), (hc HB hw321_5), (hc HB hw322_0), (hc HB hw322_1), (hc HB hw322_2), (hc HB hw322_3), (hc HB hw322_4), (hc HB hw322_5)⟩ (fun hHeld => ?_); refine with_tabW spec_l3Meet.tab9 spec_l3Meet.bits9 (fun HT_ HW_ => ?_)
                          generalize wr.drew = w40 at BK317 BK318 BK319 BK320 HB hx321_0 hx321_1 hx321_2 hx321_3 hx321_4 hx321_5 hx322_0 hx322_1 hx322_2 hx322_3 hx322_4 hx322_5 hHeld ⊢
                          refine pu 0 28 (bl 16 1) ?_
                          refine pu 2 30 (bl 16 5) ?_
                          refine pu 5 33 (bl 16 37) ?_
                          refine pu 7 35 (bl 16 165) ?_
                          refine tk 1 29 (bl 16 167) ?_ hHeld
                          refine pu 3 31 (bl 16 175) ?_
                          refine tk 4 32 (bl 16 191) ?_ hHeld
                          refine tk 6 34 (bl 16 255) ?_ hHeld
                          refine pu 8 36 (bl 16 511) ?_
                          refine tk 9 37 (bl 16 1023) ?_ hHeld
                          refine oe 10 38 (bl 16 2047) (fun K hK => ?_)
                          refine gs Try.func51 #[.agg #[.int .i64 ((rd_T26 l0_1 x8_1).f0), .int .i64 ((rd_T26 l0_1 x8_1).f1), .int .i64 ((rd_T26 l0_1 x8_1).f2), .int .i64 ((rd_T26 l0_1 x8_1).f3), .int .i64 ((rd_T26 l0_1 x8_1).f4), .int .i64 ((rd_T26 l0_1 x8_1).f5)], .agg #[.int .i64 ((rd_T26 l1_1 x9_2).f0), .int .i64 ((rd_T26 l1_1 x9_2).f1), .int .i64 ((rd_T26 l1_1 x9_2).f2), .int .i64 ((rd_T26 l1_1 x9_2).f3), .int .i64 ((rd_T26 l1_1 x9_2).f4), .int .i64 ((rd_T26 l1_1 x9_2).f5)]] ?_
                          with_reducible refine (spec_l1Close.calls k2 ((rd_T26 l0_1 x8_1).f0) ((rd_T26 l0_1 x8_1).f1) ((rd_T26 l0_1 x8_1).f2) ((rd_T26 l0_1 x8_1).f3) ((rd_T26 l0_1 x8_1).f4) ((rd_T26 l0_1 x8_1).f5) ((rd_T26 l1_1 x9_2).f0) ((rd_T26 l1_1 x9_2).f1) ((rd_T26 l1_1 x9_2).f2) ((rd_T26 l1_1 x9_2).f3) ((rd_T26 l1_1 x9_2).f4) ((rd_T26 l1_1 x9_2).f5) t323 true _ A20.out).mono ?_
                          rintro e w41 ⟨rfl, hb⟩
                          refine ⟨_, rfl, ?_⟩
                          have n0 := bb (bk BK317) hb
                          have n1 := bb (bk BK318) hb
                          have n2 := bb (bk BK319) hb
                          have n3 := bb (bk BK320) hb
                          have n4 := bs hb
                          clear BK317 BK318 BK319 BK320 HB
                          have BK317 := n0
                          have BK318 := n1
                          have BK319 := n2
                          have BK320 := n3
                          have HB := n4
                          clear n0 n1 n2 n3 n4
                          (try clear hb)
                          (try clear hb2)
                          (try clear hk)
                          (try clear hi)
                          refine hK.out _ _ ⟨(blk_cell BK317.out 0).trans rfl, (blk_cell BK317.out 1).trans rfl, (blk_cell BK318.out 0).trans rfl, (blk_cell BK318.out 1).trans rfl, (hc HB hw321_0), (hc HB hw321_1), (hc HB hw321_2), (hc HB hw321_3), (hc HB hw321_4), (hc HB hw321_5), (hc HB hw322_0), (hc HB hw322_1), (hc HB hw322_2), (hc HB hw322_3), (hc HB hw322_4), (hc HB hw322_5)⟩ (fun hHeld => ?_)
                          clear hK K
                          refine nm 38 ?_
                          refine pu 11 27 (bl 16 4095) ?_
                          refine pu 12 39 (bl 16 8191) ?_
                          refine pu 13 40 (bl 16 16383) ?_
                          refine pu 14 10 (bl 16 32767) ?_
                          refine pu 15 11 (bl 16 65535) ?_
                          refine done_ (done_of HT_.out (by kernel_rfl)) ?_
                          have hnb42 := NB320_317.out
                          have hnc42 := NB317_320.out
                          have hnb43 := NB320_319.out
                          have hnc43 := NB319_320.out
                          obtain ⟨hcz44_0, hcz44_1, hcz44_2, hcz44_3, hcz44_4, hfz44_0, hfz44_1, hfz44_2, hfz44_3, hfz44_4⟩ := zc5 BK320
                          try go_wp2
                          go_roundg k2
                          case measure => have := HK1.out; have := HK2.out; omega
                          case rel => exact ⟨(true), (wrap64 (x9_2 + 1)), (x321000_2), (x321001_2), (x321002_2), (x321003_2), (x321004_2), rs, rs, H', ⟨by have := HK1.out; have := HK2.out; omega⟩, ⟨bk BK317⟩, ⟨bk BK318⟩, ⟨bk BK319⟩, ⟨bk BK320⟩, ⟨bq⟩⟩
                      · replace c22 := Bool.eq_false_iff.mpr c22
                        subst c22
                        have H1 : (spec_l3Meet.l1 k2 true x8_1 (wrap64 (x9_2 + 1)) a0_0 l0_1 a1_0 l1_1 a0_0 a1_0 t323 x8_1 x9_2) = some (r1, r2, r3, r4, r5, r6) := by rw [if_neg (show ¬ (false = true) by decide)] at H; exact H
                        clear H
                        have H := H1
                        clear H1
                        have H' := Aside0.mk H
                        clear H
                        have hnb45 := NB318_317.out
                        have hnc45 := NB317_318.out
                        have hnb46 := NB318_319.out
                        have hnc46 := NB319_318.out
                        have hnb47 := NB318_320.out
                        have hnc47 := NB320_318.out
                        obtain ⟨hcz48_0, hcz48_1, hfz48_0, hfz48_1⟩ := zc2 BK318
                        try go_wp2
                        have n0 := ra (blk_drew BK317.out)
                        have n1 := ra (blk_drew BK318.out)
                        have n2 := ra (blk_drew BK319.out)
                        have n3 := ra (blk_drew BK320.out)
                        have n4 := ra (below_drew1 HB.out)
                        clear BK317 BK318 BK319 BK320 HB
                        have BK317 := n0
                        have BK318 := n1
                        have BK319 := n2
                        have BK320 := n3
                        have HB := n4
                        clear n0 n1 n2 n3 n4
                        have p321 : 0 ≤ (x8_1 : Int) := od
                        have q321 : x8_1 < (l0_1.length : Int) := od
                        obtain ⟨ad321, e321, hx321_0, hx321_1, hx321_2, hx321_3, hx321_4, hx321_5⟩ := at_T26 HR0_1.out x8_1 p321 q321
                        have hw321_5 := hx321_5
                        have hw321_4 := hx321_4
                        have hw321_3 := hx321_3
                        have hw321_2 := hx321_2
                        have hw321_1 := hx321_1
                        have hw321_0 := hx321_0
                        cases e321
                        replace hx321_0 := hc HB hx321_0
                        replace hx321_1 := hc HB hx321_1
                        replace hx321_2 := hc HB hx321_2
                        replace hx321_3 := hc HB hx321_3
                        replace hx321_4 := hc HB hx321_4
                        replace hx321_5 := hc HB hx321_5
                        replace p321 := eq_true p321
                        replace q321 := eq_true q321
                        have p322 : 0 ≤ (x9_2 : Int) := od
                        have q322 : x9_2 < (l1_1.length : Int) := od
                        obtain ⟨ad322, e322, hx322_0, hx322_1, hx322_2, hx322_3, hx322_4, hx322_5⟩ := at_T26 HR1_1.out x9_2 p322 q322
                        have hw322_5 := hx322_5
                        have hw322_4 := hx322_4
                        have hw322_3 := hx322_3
                        have hw322_2 := hx322_2
                        have hw322_1 := hx322_1
                        have hw322_0 := hx322_0
                        cases e322
                        replace hx322_0 := hc HB hx322_0
                        replace hx322_1 := hc HB hx322_1
                        replace hx322_2 := hc HB hx322_2
                        replace hx322_3 := hc HB hx322_3
                        replace hx322_4 := hc HB hx322_4
                        replace hx322_5 := hc HB hx322_5
                        replace p322 := eq_true p322
                        replace q322 := eq_true q322
                        refine start_ (n := 16) (S := fun w' => w'.cell? ⟨gb317, 0, none⟩ = some (.string a0_0) ∧ w'.cell? ⟨gb317, 1, none⟩ = some (.slice (some ad321) l0_1.length c0_1) ∧ w'.cell? ⟨gb318, 0, none⟩ = some (.string a1_0) ∧ w'.cell? ⟨gb318, 1, none⟩ = some (.slice (some ad322) l1_1.length c1_1) ∧ w'.cell? (ad321.add ((x8_1).toNat * 6)) = some (.int .i64 ((rd_T26 l0_1 x8_1).f0)) ∧ w'.cell? ⟨(ad321.add ((x8_1).toNat * 6)).block, (ad321.add ((x8_1).toNat * 6)).off + 1, none⟩ = some (.int .i64 ((rd_T26 l0_1 x8_1).f1)) ∧ w'.cell? ⟨(ad321.add ((x8_1).toNat * 6)).block, (ad321.add ((x8_1).toNat * 6)).off + 2, none⟩ = some (.int .i64 ((rd_T26 l0_1 x8_1).f2)) ∧ w'.cell? ⟨(ad321.add ((x8_1).toNat * 6)).block, (ad321.add ((x8_1).toNat * 6)).off + 3, none⟩ = some (.int .i64 ((rd_T26 l0_1 x8_1).f3)) ∧ w'.cell? ⟨(ad321.add ((x8_1).toNat * 6)).block, (ad321.add ((x8_1).toNat * 6)).off + 4, none⟩ = some (.int .i64 ((rd_T26 l0_1 x8_1).f4)) ∧ w'.cell? ⟨(ad321.add ((x8_1).toNat * 6)).block, (ad321.add ((x8_1).toNat * 6)).off + 5, none⟩ = some (.int .i64 ((rd_T26 l0_1 x8_1).f5)) ∧ w'.cell? (ad322.add ((x9_2).toNat * 6)) = some (.int .i64 ((rd_T26 l1_1 x9_2).f0)) ∧ w'.cell? ⟨(ad322.add ((x9_2).toNat * 6)).block, (ad322.add ((x9_2).toNat * 6)).off + 1, none⟩ = some (.int .i64 ((rd_T26 l1_1 x9_2).f1)) ∧ w'.cell? ⟨(ad322.add ((x9_2).toNat * 6)).block, (ad322.add ((x9_2).toNat * 6)).off + 2, none⟩ = some (.int .i64 ((rd_T26 l1_1 x9_2).f2)) ∧ w'.cell? ⟨(ad322.add ((x9_2).toNat * 6)).block, (ad322.add ((x9_2).toNat * 6)).off + 3, none⟩ = some (.int .i64 ((rd_T26 l1_1 x9_2).f3)) ∧ w'.cell? ⟨(ad322.add ((x9_2).toNat * 6)).block, (ad322.add ((x9_2).toNat * 6)).off + 4, none⟩ = some (.int .i64 ((rd_T26 l1_1 x9_2).f4)) ∧ w'.cell? ⟨(ad322.add ((x9_2).toNat * 6)).block, (ad322.add ((x9_2).toNat * 6)).off + 5, none⟩ = some (.int .i64 ((rd_T26 l1_1 x9_2).f5))) (ds := []) (bl 16 0) (by kernel_rfl) rfl rfl ⟨(blk_cell BK317.out 0).trans rfl, (blk_cell BK317.out 1).trans rfl, (blk_cell BK318.out 0).trans rfl, (blk_cell BK318.out 1).trans rfl, (hc HB hw321_0), (hc HB hw321_1), (hc HB hw321_2), (hc HB hw321_3), (hc HB hw321_4), (hc HB hw321_5), (hc HB hw322_0), (hc HB hw322_1), (hc HB hw322_2), (hc HB hw322_3), (hc HB hw322_4), (hc HB hw322_5)⟩ (fun hHeld => ?_); refine with_tabW spec_l3Meet.tab9 spec_l3Meet.bits9 (fun HT_ HW_ => ?_)
                        generalize wr.drew = w49 at BK317 BK318 BK319 BK320 HB hx321_0 hx321_1 hx321_2 hx321_3 hx321_4 hx321_5 hx322_0 hx322_1 hx322_2 hx322_3 hx322_4 hx322_5 hHeld ⊢
                        refine pu 0 28 (bl 16 1) ?_
                        refine pu 2 30 (bl 16 5) ?_
                        refine pu 5 33 (bl 16 37) ?_
                        refine pu 7 35 (bl 16 165) ?_
                        refine tk 1 29 (bl 16 167) ?_ hHeld
                        refine pu 3 31 (bl 16 175) ?_
                        refine tk 4 32 (bl 16 191) ?_ hHeld
                        refine tk 6 34 (bl 16 255) ?_ hHeld
                        refine pu 8 36 (bl 16 511) ?_
                        refine tk 9 37 (bl 16 1023) ?_ hHeld
                        refine oe 10 38 (bl 16 2047) (fun K hK => ?_)
                        refine gs Try.func51 #[.agg #[.int .i64 ((rd_T26 l0_1 x8_1).f0), .int .i64 ((rd_T26 l0_1 x8_1).f1), .int .i64 ((rd_T26 l0_1 x8_1).f2), .int .i64 ((rd_T26 l0_1 x8_1).f3), .int .i64 ((rd_T26 l0_1 x8_1).f4), .int .i64 ((rd_T26 l0_1 x8_1).f5)], .agg #[.int .i64 ((rd_T26 l1_1 x9_2).f0), .int .i64 ((rd_T26 l1_1 x9_2).f1), .int .i64 ((rd_T26 l1_1 x9_2).f2), .int .i64 ((rd_T26 l1_1 x9_2).f3), .int .i64 ((rd_T26 l1_1 x9_2).f4), .int .i64 ((rd_T26 l1_1 x9_2).f5)]] ?_
                        with_reducible refine (spec_l1Close.calls k2 ((rd_T26 l0_1 x8_1).f0) ((rd_T26 l0_1 x8_1).f1) ((rd_T26 l0_1 x8_1).f2) ((rd_T26 l0_1 x8_1).f3) ((rd_T26 l0_1 x8_1).f4) ((rd_T26 l0_1 x8_1).f5) ((rd_T26 l1_1 x9_2).f0) ((rd_T26 l1_1 x9_2).f1) ((rd_T26 l1_1 x9_2).f2) ((rd_T26 l1_1 x9_2).f3) ((rd_T26 l1_1 x9_2).f4) ((rd_T26 l1_1 x9_2).f5) t323 true _ A20.out).mono ?_
                        rintro e w50 ⟨rfl, hb⟩
                        refine ⟨_, rfl, ?_⟩
                        have n0 := bb (bk BK317) hb
                        have n1 := bb (bk BK318) hb
                        have n2 := bb (bk BK319) hb
                        have n3 := bb (bk BK320) hb
                        have n4 := bs hb
                        clear BK317 BK318 BK319 BK320 HB
                        have BK317 := n0
                        have BK318 := n1
                        have BK319 := n2
                        have BK320 := n3
                        have HB := n4
                        clear n0 n1 n2 n3 n4
                        (try clear hb)
                        (try clear hb2)
                        (try clear hk)
                        (try clear hi)
                        refine hK.out _ _ ⟨(blk_cell BK317.out 0).trans rfl, (blk_cell BK317.out 1).trans rfl, (blk_cell BK318.out 0).trans rfl, (blk_cell BK318.out 1).trans rfl, (hc HB hw321_0), (hc HB hw321_1), (hc HB hw321_2), (hc HB hw321_3), (hc HB hw321_4), (hc HB hw321_5), (hc HB hw322_0), (hc HB hw322_1), (hc HB hw322_2), (hc HB hw322_3), (hc HB hw322_4), (hc HB hw322_5)⟩ (fun hHeld => ?_)
                        clear hK K
                        refine nm 38 ?_
                        refine pu 11 27 (bl 16 4095) ?_
                        refine pu 12 39 (bl 16 8191) ?_
                        refine pu 13 40 (bl 16 16383) ?_
                        refine pu 14 10 (bl 16 32767) ?_
                        refine pu 15 11 (bl 16 65535) ?_
                        refine done_ (done_of HT_.out (by kernel_rfl)) ?_
                        have hnb51 := NB317_319.out
                        have hnc51 := NB319_317.out
                        have hnb52 := NB317_320.out
                        have hnc52 := NB320_317.out
                        obtain ⟨hcz53_0, hcz53_1, hfz53_0, hfz53_1⟩ := zc2 BK317
                        obtain ⟨hcz54_0, hcz54_1, hfz54_0, hfz54_1⟩ := zc2 BK318
                        have hnb55 := NB320_319.out
                        have hnc55 := NB319_320.out
                        obtain ⟨hcz56_0, hcz56_1, hcz56_2, hcz56_3, hcz56_4, hfz56_0, hfz56_1, hfz56_2, hfz56_3, hfz56_4⟩ := zc5 BK320
                        try go_wp2
                        go_roundg k2
                        case measure => have := HK1.out; have := HK2.out; omega
                        case rel => exact ⟨(true), (wrap64 (x9_2 + 1)), (a0_0), (a1_0), (t323), (x8_1), (x9_2), rs, rs, H', ⟨by have := HK1.out; have := HK2.out; omega⟩, ⟨bk BK317⟩, ⟨bk BK318⟩, ⟨bk BK319⟩, ⟨bp BK320⟩, ⟨bq⟩⟩
                    · replace c21 := Bool.eq_false_iff.mpr c21
                      subst c21
                      have H1 : (spec_l3Meet.l1 k2 x7_2 x8_1 (wrap64 (x9_2 + 1)) a0_0 l0_1 a1_0 l1_1 x321000_2 x321001_2 x321002_2 x321003_2 x321004_2) = some (r1, r2, r3, r4, r5, r6) := by rw [if_neg (show ¬ (false = true) by decide)] at H; exact H
                      clear H
                      have H := H1
                      clear H1
                      have H' := Aside0.mk H
                      clear H
                      have hnb57 := NB318_317.out
                      have hnc57 := NB317_318.out
                      have hnb58 := NB318_319.out
                      have hnc58 := NB319_318.out
                      have hnb59 := NB318_320.out
                      have hnc59 := NB320_318.out
                      obtain ⟨hcz60_0, hcz60_1, hfz60_0, hfz60_1⟩ := zc2 BK318
                      try go_wp2
                      have n0 := ra (blk_drew BK317.out)
                      have n1 := ra (blk_drew BK318.out)
                      have n2 := ra (blk_drew BK319.out)
                      have n3 := ra (blk_drew BK320.out)
                      have n4 := ra (below_drew1 HB.out)
                      clear BK317 BK318 BK319 BK320 HB
                      have BK317 := n0
                      have BK318 := n1
                      have BK319 := n2
                      have BK320 := n3
                      have HB := n4
                      clear n0 n1 n2 n3 n4
                      have p321 : 0 ≤ (x8_1 : Int) := od
                      have q321 : x8_1 < (l0_1.length : Int) := od
                      obtain ⟨ad321, e321, hx321_0, hx321_1, hx321_2, hx321_3, hx321_4, hx321_5⟩ := at_T26 HR0_1.out x8_1 p321 q321
                      have hw321_5 := hx321_5
                      have hw321_4 := hx321_4
                      have hw321_3 := hx321_3
                      have hw321_2 := hx321_2
                      have hw321_1 := hx321_1
                      have hw321_0 := hx321_0
                      cases e321
                      replace hx321_0 := hc HB hx321_0
                      replace hx321_1 := hc HB hx321_1
                      replace hx321_2 := hc HB hx321_2
                      replace hx321_3 := hc HB hx321_3
                      replace hx321_4 := hc HB hx321_4
                      replace hx321_5 := hc HB hx321_5
                      replace p321 := eq_true p321
                      replace q321 := eq_true q321
                      have p322 : 0 ≤ (x9_2 : Int) := od
                      have q322 : x9_2 < (l1_1.length : Int) := od
                      obtain ⟨ad322, e322, hx322_0, hx322_1, hx322_2, hx322_3, hx322_4, hx322_5⟩ := at_T26 HR1_1.out x9_2 p322 q322
                      have hw322_5 := hx322_5
                      have hw322_4 := hx322_4
                      have hw322_3 := hx322_3
                      have hw322_2 := hx322_2
                      have hw322_1 := hx322_1
                      have hw322_0 := hx322_0
                      cases e322
                      replace hx322_0 := hc HB hx322_0
                      replace hx322_1 := hc HB hx322_1
                      replace hx322_2 := hc HB hx322_2
                      replace hx322_3 := hc HB hx322_3
                      replace hx322_4 := hc HB hx322_4
                      replace hx322_5 := hc HB hx322_5
                      replace p322 := eq_true p322
                      replace q322 := eq_true q322
                      refine start_ (n := 16) (S := fun w' => w'.cell? ⟨gb317, 0, none⟩ = some (.string a0_0) ∧ w'.cell? ⟨gb317, 1, none⟩ = some (.slice (some ad321) l0_1.length c0_1) ∧ w'.cell? ⟨gb318, 0, none⟩ = some (.string a1_0) ∧ w'.cell? ⟨gb318, 1, none⟩ = some (.slice (some ad322) l1_1.length c1_1) ∧ w'.cell? (ad321.add ((x8_1).toNat * 6)) = some (.int .i64 ((rd_T26 l0_1 x8_1).f0)) ∧ w'.cell? ⟨(ad321.add ((x8_1).toNat * 6)).block, (ad321.add ((x8_1).toNat * 6)).off + 1, none⟩ = some (.int .i64 ((rd_T26 l0_1 x8_1).f1)) ∧ w'.cell? ⟨(ad321.add ((x8_1).toNat * 6)).block, (ad321.add ((x8_1).toNat * 6)).off + 2, none⟩ = some (.int .i64 ((rd_T26 l0_1 x8_1).f2)) ∧ w'.cell? ⟨(ad321.add ((x8_1).toNat * 6)).block, (ad321.add ((x8_1).toNat * 6)).off + 3, none⟩ = some (.int .i64 ((rd_T26 l0_1 x8_1).f3)) ∧ w'.cell? ⟨(ad321.add ((x8_1).toNat * 6)).block, (ad321.add ((x8_1).toNat * 6)).off + 4, none⟩ = some (.int .i64 ((rd_T26 l0_1 x8_1).f4)) ∧ w'.cell? ⟨(ad321.add ((x8_1).toNat * 6)).block, (ad321.add ((x8_1).toNat * 6)).off + 5, none⟩ = some (.int .i64 ((rd_T26 l0_1 x8_1).f5)) ∧ w'.cell? (ad322.add ((x9_2).toNat * 6)) = some (.int .i64 ((rd_T26 l1_1 x9_2).f0)) ∧ w'.cell? ⟨(ad322.add ((x9_2).toNat * 6)).block, (ad322.add ((x9_2).toNat * 6)).off + 1, none⟩ = some (.int .i64 ((rd_T26 l1_1 x9_2).f1)) ∧ w'.cell? ⟨(ad322.add ((x9_2).toNat * 6)).block, (ad322.add ((x9_2).toNat * 6)).off + 2, none⟩ = some (.int .i64 ((rd_T26 l1_1 x9_2).f2)) ∧ w'.cell? ⟨(ad322.add ((x9_2).toNat * 6)).block, (ad322.add ((x9_2).toNat * 6)).off + 3, none⟩ = some (.int .i64 ((rd_T26 l1_1 x9_2).f3)) ∧ w'.cell? ⟨(ad322.add ((x9_2).toNat * 6)).block, (ad322.add ((x9_2).toNat * 6)).off + 4, none⟩ = some (.int .i64 ((rd_T26 l1_1 x9_2).f4)) ∧ w'.cell? ⟨(ad322.add ((x9_2).toNat * 6)).block, (ad322.add ((x9_2).toNat * 6)).off + 5, none⟩ = some (.int .i64 ((rd_T26 l1_1 x9_2).f5))) (ds := []) (bl 16 0) (by kernel_rfl) rfl rfl ⟨(blk_cell BK317.out 0).trans rfl, (blk_cell BK317.out 1).trans rfl, (blk_cell BK318.out 0).trans rfl, (blk_cell BK318.out 1).trans rfl, (hc HB hw321_0), (hc HB hw321_1), (hc HB hw321_2), (hc HB hw321_3), (hc HB hw321_4), (hc HB hw321_5), (hc HB hw322_0), (hc HB hw322_1), (hc HB hw322_2), (hc HB hw322_3), (hc HB hw322_4), (hc HB hw322_5)⟩ (fun hHeld => ?_); refine with_tabW spec_l3Meet.tab9 spec_l3Meet.bits9 (fun HT_ HW_ => ?_)
                      generalize wr.drew = w61 at BK317 BK318 BK319 BK320 HB hx321_0 hx321_1 hx321_2 hx321_3 hx321_4 hx321_5 hx322_0 hx322_1 hx322_2 hx322_3 hx322_4 hx322_5 hHeld ⊢
                      refine pu 0 28 (bl 16 1) ?_
                      refine pu 2 30 (bl 16 5) ?_
                      refine pu 5 33 (bl 16 37) ?_
                      refine pu 7 35 (bl 16 165) ?_
                      refine tk 1 29 (bl 16 167) ?_ hHeld
                      refine pu 3 31 (bl 16 175) ?_
                      refine tk 4 32 (bl 16 191) ?_ hHeld
                      refine tk 6 34 (bl 16 255) ?_ hHeld
                      refine pu 8 36 (bl 16 511) ?_
                      refine tk 9 37 (bl 16 1023) ?_ hHeld
                      refine oe 10 38 (bl 16 2047) (fun K hK => ?_)
                      refine gs Try.func51 #[.agg #[.int .i64 ((rd_T26 l0_1 x8_1).f0), .int .i64 ((rd_T26 l0_1 x8_1).f1), .int .i64 ((rd_T26 l0_1 x8_1).f2), .int .i64 ((rd_T26 l0_1 x8_1).f3), .int .i64 ((rd_T26 l0_1 x8_1).f4), .int .i64 ((rd_T26 l0_1 x8_1).f5)], .agg #[.int .i64 ((rd_T26 l1_1 x9_2).f0), .int .i64 ((rd_T26 l1_1 x9_2).f1), .int .i64 ((rd_T26 l1_1 x9_2).f2), .int .i64 ((rd_T26 l1_1 x9_2).f3), .int .i64 ((rd_T26 l1_1 x9_2).f4), .int .i64 ((rd_T26 l1_1 x9_2).f5)]] ?_
                      with_reducible refine (spec_l1Close.calls k2 ((rd_T26 l0_1 x8_1).f0) ((rd_T26 l0_1 x8_1).f1) ((rd_T26 l0_1 x8_1).f2) ((rd_T26 l0_1 x8_1).f3) ((rd_T26 l0_1 x8_1).f4) ((rd_T26 l0_1 x8_1).f5) ((rd_T26 l1_1 x9_2).f0) ((rd_T26 l1_1 x9_2).f1) ((rd_T26 l1_1 x9_2).f2) ((rd_T26 l1_1 x9_2).f3) ((rd_T26 l1_1 x9_2).f4) ((rd_T26 l1_1 x9_2).f5) t323 false _ A20.out).mono ?_
                      rintro e w62 ⟨rfl, hb⟩
                      refine ⟨_, rfl, ?_⟩
                      have n0 := bb (bk BK317) hb
                      have n1 := bb (bk BK318) hb
                      have n2 := bb (bk BK319) hb
                      have n3 := bb (bk BK320) hb
                      have n4 := bs hb
                      clear BK317 BK318 BK319 BK320 HB
                      have BK317 := n0
                      have BK318 := n1
                      have BK319 := n2
                      have BK320 := n3
                      have HB := n4
                      clear n0 n1 n2 n3 n4
                      (try clear hb)
                      (try clear hb2)
                      (try clear hk)
                      (try clear hi)
                      refine hK.out _ _ ⟨(blk_cell BK317.out 0).trans rfl, (blk_cell BK317.out 1).trans rfl, (blk_cell BK318.out 0).trans rfl, (blk_cell BK318.out 1).trans rfl, (hc HB hw321_0), (hc HB hw321_1), (hc HB hw321_2), (hc HB hw321_3), (hc HB hw321_4), (hc HB hw321_5), (hc HB hw322_0), (hc HB hw322_1), (hc HB hw322_2), (hc HB hw322_3), (hc HB hw322_4), (hc HB hw322_5)⟩ (fun hHeld => ?_)
                      clear hK K
                      refine nm 38 ?_
                      refine pu 11 27 (bl 16 4095) ?_
                      refine pu 12 39 (bl 16 8191) ?_
                      refine pu 13 40 (bl 16 16383) ?_
                      refine pu 14 10 (bl 16 32767) ?_
                      refine pu 15 11 (bl 16 65535) ?_
                      refine done_ (done_of HT_.out (by kernel_rfl)) ?_
                      try go_wp2
                      go_roundg k2
                      case measure => have := HK1.out; have := HK2.out; omega
                      case rel => exact ⟨(x7_2), (wrap64 (x9_2 + 1)), (x321000_2), (x321001_2), (x321002_2), (x321003_2), (x321004_2), rs, rs, H', ⟨by have := HK1.out; have := HK2.out; omega⟩, ⟨bk BK317⟩, ⟨bk BK318⟩, ⟨bk BK319⟩, ⟨bk BK320⟩, ⟨bq⟩⟩
                  · rw [if_neg c19] at H
                    exact absurd H (by simp)
                · rw [if_neg c18] at H
                  exact absurd H (by simp)
              · rw [if_neg c17] at H
                exact absurd H (by simp)
            · rw [if_neg c16] at H
              have c16b0 : decide (x9_2 < (l1_1.length : Int)) = false := decide_eq_false c16
              clear c16
              have H' := Aside0.mk H
              clear H
              have hnb63 := NB318_317.out
              have hnc63 := NB317_318.out
              have hnb64 := NB318_319.out
              have hnc64 := NB319_318.out
              have hnb65 := NB318_320.out
              have hnc65 := NB320_318.out
              obtain ⟨hcz66_0, hcz66_1, hfz66_0, hfz66_1⟩ := zc2 BK318
              go_wp2
              go_roundg k2
              case measure => have := HK1.out; have := HK2.out; omega
              case rel => exact ⟨(x7_2), (wrap64 (x8_1 + 1)), (x321000_2), (x321001_2), (x321002_2), (x321003_2), (x321004_2), rs, rs, H', ⟨by have := HK1.out; have := HK2.out; omega⟩, ⟨bk BK317⟩, ⟨bk BK318⟩, ⟨bk BK319⟩, ⟨bk BK320⟩, ⟨bq⟩⟩
      · rw [if_neg c11] at H
        have c11b0 : decide (x8_1 < (l0_1.length : Int)) = false := decide_eq_false c11
        clear c11
        simp only [Option.some.injEq, Prod.mk.injEq] at H
        obtain ⟨rfl, rfl, rfl, rfl, rfl, rfl⟩ := H
        have hnb67 := NB317_318.out
        have hnc67 := NB318_317.out
        have hnb68 := NB317_319.out
        have hnc68 := NB319_317.out
        have hnb69 := NB317_320.out
        have hnc69 := NB320_317.out
        obtain ⟨hcz70_0, hcz70_1, hfz70_0, hfz70_1⟩ := zc2 BK317
        have hnb71 := NB320_318.out
        have hnc71 := NB318_320.out
        have hnb72 := NB320_319.out
        have hnc72 := NB319_320.out
        obtain ⟨hcz73_0, hcz73_1, hcz73_2, hcz73_3, hcz73_4, hfz73_0, hfz73_1, hfz73_2, hfz73_3, hfz73_4⟩ := zc5 BK320
        have hnb74 := NB319_318.out
        have hnc74 := NB318_319.out
        obtain ⟨hcz75_0, hcz75_1, hcz75_2, hcz75_3, hcz75_4, hfz75_0, hfz75_1, hfz75_2, hfz75_3, hfz75_4⟩ := zc5 BK319
        go_wp2
        refine bodyPost_ret (results_ct rfl _ _ gb319 52 #[.string x321000_1, .string x321001_1, .int .i64 x321002_1, .int .i64 x321003_1, .int .i64 x321004_1] (0, 0) _ rfl (bp BK319) Try.underlying52 rfl (by kernel_rfl)) rfl ?_
        exact ⟨re, bq⟩
end Go.Proofs.Ytfoapgcnjnogiaa.PA
