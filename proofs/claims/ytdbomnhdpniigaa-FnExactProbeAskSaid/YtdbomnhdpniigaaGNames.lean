/- Contracts of the functions spec_l5Names. (Began as a print of the kit's tool.) -/
import Derived.Test.YtdbomnhdpniigaaPAd
import Derived.Test.YtdbomnhdpniigaaCx
namespace Go.Proofs.Ytdbomnhdpniigaa.PA
open Go.RowKit Go.Proofs.YtdbomnhdpniigaaW.PrintWords Go.Proofs.YtdbomnhdpniigaaW.PrintLast Go.Proofs.YtdbomnhdpniigaaW.PrintMore Go.Proofs.Ytdbomnhdpniigaa.Z
attribute [local go_sem] max2_int min2_int max_two min_two max_three min_three max_four min_four
set_option linter.unusedVariables false
set_option linter.unusedSimpArgs false
def spec_l5Names.T13 : Bool × List (List Nat × List Nat) := (true, [([], []), ([], []), ([], []), ([1, 2], [1, 2]), ([0, 3], [0, 3]), ([], []), ([5], [5]), ([4, 6, 4], [4, 6]), ([], []), ([], []), ([8, 9], [8, 9]), ([7, 10, 7], [7, 10]), ([11, 11, 0, 1, 2, 3, 4, 5, 6, 7, 8, 9, 10, 11], [1, 8, 11])])
def spec_l5Names.B13 : List Nat := [0, 0, 0, 6, 15, 0, 32, 127, 0, 0, 768, 2047, 4095]
theorem spec_l5Names.tab13 : rtab .any (opsOf Try.f73 13) = spec_l5Names.T13 := by kernel_rfl
theorem spec_l5Names.bits13 : waitsOk spec_l5Names.T13.2 spec_l5Names.B13 = true := by kernel_rfl
set_option maxHeartbeats 8000000 in
set_option maxRecDepth 100000 in
theorem spec_l5Names.calls (k : Nat) (A0_0 : Option Addr) (c0_0 : Nat) (l0_0 : List (S105)) (r : List ByteArray) (w : World) (hr0_0 : Kd.C k105 w A0_0 l0_0.length l0_0) (hc0_0 : l0_0.length ≤ c0_0) (h : spec_l5Names.f k l0_0 = some r) :
  Calls Try.prog 73 #[.agg #[.slice A0_0 l0_0.length c0_0]] w fun e w' => ∃ v0_ : Value, e = .returned (v0_) ∧ Kd.R Kd.string 9 w' w.heap.size (fun _ => True) v0_ r ∧ Below w.heap.size w w' := by
 have hu65 := Try.underlying65
 have HR0_0 := Aside0.mk hr0_0
 have HC0_0 := Aside0.mk hc0_0
 clear hr0_0 hc0_0
 have HB := ra (Below.refl w.heap.size w)
 have H : (spec_l5Names.l0 k (([] : List ByteArray)) 0 l0_0) = some r := h
 clear h
 obtain ⟨y210, hy_⟩ : ∃ y_ : List ByteArray, y_ = (([] : List ByteArray)) := ⟨_, rfl⟩
 replace H : (spec_l5Names.l0 k y210 0 l0_0) = some r := yh
 have Ny210 := ra hy_
 clear hy_
 have H' := Aside0.mk H
 clear H
 go_enter Try.func73, Try.ntmps73
 go_wp2_with (first | ((with_reducible refine gate_dst (N := 1) rfl ?_); refine be 1 #[.slice A0_0 l0_0.length c0_0] 65 ?_; intro gb209 hg w2 hbox hb; have _ := bs hb; have _ := ra (hbox); have _ := bz (w0 := w) hg; have _ := bz (w0 := w) hg; clear HB; rename_i HB BK209 GW209 GE209; clear hb hbox hg) | ((with_reducible refine gate_dst (N := 8) rfl ?_); refine Kd.R_lit Kd.string _ 9 ?hg (N := 8) ?hd (xs := ([] : List ByteArray)) (inner := []) (ok := fun _ => True) (okp := fun _ => True) ?hr ?hp (fun _ hk => hk) trivial (Below.refl _ _) (Nat.le_refl _) (by simp) ?_; (case hd => rfl); (case hg => rfl); (case hr => first | (go_simp; done) | (go_simp; rfl)); (case hp => exact (Reps.none _ _)); intro v211 w3 ho4 hb hg_ hnew_; clear hg_ hnew_; (first | rw [← Ny210.out] at ho4 | (simp only [Int.reduceToNat] at ho4; rw [← Ny210.out] at ho4)); have _ := ra (Kd.R_lower ho4 (below_size bq)); have _ := bb (bk BK209) hb; have _ := bs hb; clear BK209 HB; rename_i HO212 BK209 HB; clear hb ho4))
 go_loopg [3, 4] k (fun kq v3 v4 w' => ∃ (x3_1 : List ByteArray) (x4_1 : Int), v4 = .int .i64 x4_1 ∧ Aside0 (spec_l5Names.l0 kq x3_1 x4_1 l0_0 = some r) ∧ Aside0 (kq ≤ k) ∧ Aside0 (Kd.R Kd.string 9 w' w.heap.size (fun _ => True) v3 x3_1) ∧ Aside0 (w'.heap[gb209]? = some (.cells #[(.slice A0_0 l0_0.length c0_0)] 65 (0, 0))) ∧ Aside0 (Below w.heap.size w w'))
 case atStart => exact ⟨(y210), (0), rs, H', ⟨Nat.le_refl _⟩, ⟨rq HO212⟩, ⟨bk BK209⟩, ⟨bq⟩⟩
 case round =>
  clear H'
  obtain ⟨x3_1, x4_1, rfl, HA, HK1, HO_3, BK209, HB⟩ := hrel
  cases gk with
  | zero => exact absurd HA.out (by simp [spec_l5Names.l0])
  | succ k1 =>
   have H := HA.out
   clear HA
   simp only [spec_l5Names.l0] at H
   by_cases c5 : x4_1 < (l0_0.length : Int)
   ·rw [if_pos c5] at H
    have c5b0 : decide (x4_1 < (l0_0.length : Int)) = true := decide_eq_true c5
    clear c5
    have H' := Aside0.mk H
    clear H
    obtain ⟨hcz6_0, hfz6_0⟩ := zc1 BK209
    go_wp2
    go_loopg [3, 5] k1 (fun kq v3 v5 w' => ∃ (x3_2 : List ByteArray) (x5_2 : Int), v5 = .int .i64 x5_2 ∧ Aside0 (spec_l5Names.l1 kq x3_2 x4_1 x5_2 l0_0 = some r) ∧ Aside0 (kq ≤ k1) ∧ Aside0 (Kd.R Kd.string 9 w' w.heap.size (fun _ => True) v3 x3_2) ∧ Aside0 (w'.heap[gb209]? = some (.cells #[(.slice A0_0 l0_0.length c0_0)] 65 (0, 0))) ∧ Aside0 (Below w.heap.size w w'))
    case atStart => exact ⟨(x3_1), (0), rs, H', ⟨Nat.le_refl _⟩, ⟨rq HO_3⟩, ⟨bk BK209⟩, ⟨bq⟩⟩
    case round =>
     clear H'
     try clear c5
     try clear c5b0
     try clear hcz6_0
     try clear hfz6_0
     obtain ⟨x3_2, x5_2, rfl, HA, HK2, HO_3, BK209, HB⟩ := hrel
     cases gk with
     | zero => exact absurd HA.out (by simp [spec_l5Names.l1])
     | succ k2 =>
      have H := HA.out
      clear HA
      simp only [spec_l5Names.l1] at H
      by_cases c7 : 0 ≤ x4_1
      ·rw [if_pos c7] at H
       have c7b0 : decide (0 ≤ x4_1) = true := decide_eq_true c7
       clear c7
       by_cases c8 : x4_1 < (l0_0.length : Int)
       ·rw [if_pos c8] at H
        have c8b0 : decide (x4_1 < (l0_0.length : Int)) = true := decide_eq_true c8
        clear c8
        by_cases c9 : x5_2 < (((rd_T105 l0_0 x4_1).f2).length : Int)
        ·rw [if_pos c9] at H
         have c9b0 : decide (x5_2 < (((rd_T105 l0_0 x4_1).f2).length : Int)) = true := decide_eq_true c9
         clear c9
         by_cases c10 : 0 ≤ x5_2
         ·rw [if_pos c10] at H
          have c10b0 : decide (0 ≤ x5_2) = true := decide_eq_true c10
          clear c10
          have H' := Aside0.mk H
          clear H
          obtain ⟨hcz11_0, hfz11_0⟩ := zc1 BK209
          have p213 : 0 ≤ (x4_1 : Int) := od
          have q213 : x4_1 < (l0_0.length : Int) := od
          obtain ⟨ad213, A213_2, c213_2, e213, hx213_0, hx213_1, hx213_2, hl213_2, hi213_2⟩ := at_T105 HR0_0.out x4_1 p213 q213
          cases e213
          replace hx213_0 := hc HB hx213_0
          replace hx213_1 := hc HB hx213_1
          replace hx213_2 := hc HB hx213_2
          have HR213_2 := Aside0.mk hi213_2
          have HC213_2 := Aside0.mk hl213_2
          clear hi213_2 hl213_2
          replace p213 := eq_true p213
          replace q213 := eq_true q213
          have p214 : 0 ≤ (x4_1 : Int) := od
          have q214 : x4_1 < (l0_0.length : Int) := od
          obtain ⟨ad214, A214_2, c214_2, e214, hx214_0, hx214_1, hx214_2, hl214_2, hi214_2⟩ := at_T105 HR0_0.out x4_1 p214 q214
          obtain rfl : ad213 = ad214 := (by injection e214)
          replace hx214_0 := hc HB hx214_0
          replace hx214_1 := hc HB hx214_1
          replace hx214_2 := hc HB hx214_2
          have HR214_2 := Aside0.mk hi214_2
          have HC214_2 := Aside0.mk hl214_2
          clear hi214_2 hl214_2
          replace p214 := eq_true p214
          replace q214 := eq_true q214
          have ea_ := Option.some.inj (hx213_2.symm.trans hx214_2)
          injection ea_ with ea_ en_ ec_
          subst ea_
          subst ec_
          clear en_
          have p215 : 0 ≤ (x5_2 : Int) := od
          have q215 : x5_2 < (((rd_T105 l0_0 x4_1).f2).length : Int) := od
          obtain ⟨ad215, e215, hx215_0, hx215_1, hx215_2, hx215_3, hx215_4, hx215_5⟩ := at_T101 HR214_2.out x5_2 p215 q215
          cases e215
          replace hx215_0 := hc HB hx215_0
          replace hx215_1 := hc HB hx215_1
          replace hx215_2 := hc HB hx215_2
          replace hx215_3 := hc HB hx215_3
          replace hx215_4 := hc HB hx215_4
          replace hx215_5 := hc HB hx215_5
          replace p215 := eq_true p215
          replace q215 := eq_true q215
          go_wp2
          go_loopg [7] k2 (fun kq v7 w' => ∃ (x7_3 : Int), v7 = .int .i64 x7_3 ∧ Aside0 (spec_l5Names.l2 kq x3_2 x4_1 x5_2 ((rd_T101 ((rd_T105 l0_0 x4_1).f2) x5_2).f4) x7_3 l0_0 = some r) ∧ Aside0 (kq ≤ k2) ∧ Aside0 (Kd.R Kd.string 9 w' w.heap.size (fun _ => True) u3 x3_2) ∧ Aside0 (w'.heap[gb209]? = some (.cells #[(.slice (some ad213) l0_0.length c0_0)] 65 (0, 0))) ∧ Aside0 (Below w.heap.size w w'))
          case atStart => exact ⟨(0), rs, H', ⟨Nat.le_refl _⟩, ⟨rq HO_3⟩, ⟨bk BK209⟩, ⟨bq⟩⟩
          case round =>
           clear H'
           try clear c1
           try clear c5
           try clear c5b0
           try clear c7
           try clear c7b0
           try clear c8
           try clear c8b0
           try clear c9
           try clear c9b0
           try clear c10
           try clear c10b0
           try clear hcz11_0
           try clear hcz6_0
           try clear hfz11_0
           try clear hfz6_0
           try clear hx213_0
           try clear hx213_1
           try clear hx213_2
           try clear hx214_0
           try clear hx214_1
           try clear hx214_2
           try clear hx215_0
           try clear hx215_1
           try clear hx215_2
           try clear hx215_3
           try clear hx215_4
           try clear hx215_5
           try clear p213
           try clear p214
           try clear p215
           try clear q213
           try clear q214
           try clear q215
           obtain ⟨x7_3, rfl, HA, HK3, HO_3, BK209, HB⟩ := hrel
           cases gk with
           | zero => exact absurd HA.out (by simp [spec_l5Names.l2])
           | succ k3 =>
            have H := HA.out
            clear HA
            simp only [spec_l5Names.l2] at H
            by_cases c12 : x7_3 < (x3_2.length : Int)
            ·rw [if_pos c12] at H
             have c12b0 : decide (x7_3 < (x3_2.length : Int)) = true := decide_eq_true c12
             clear c12
             by_cases c13 : 0 ≤ x7_3
             ·rw [if_pos c13] at H
              have c13b0 : decide (0 ≤ x7_3) = true := decide_eq_true c13
              clear c13
              by_cases c14 : (Op.bytesLess ((rdOf ByteArray.empty x3_2 x7_3).toList) ((rd_T101 ((rd_T105 l0_0 x4_1).f2) x5_2).f4).toList) = true
              ·rw [if_pos c14] at H
               have c14b0 : (Op.bytesLess ((rdOf ByteArray.empty x3_2 x7_3).toList) ((rd_T101 ((rd_T105 l0_0 x4_1).f2) x5_2).f4).toList) = true := c14
               clear c14
               have H' := Aside0.mk H
               clear H
               obtain ⟨Ao15, co15, eo15⟩ := Kd.R_slice HO_3.out
               subst eo15
               have p216 : 0 ≤ (x7_3 : Int) := od
               have q216 : x7_3 < (x3_2.length : Int) := od
               obtain ⟨ad216, e216, hx216_0⟩ := Kd.at_string (Kd.R_reads' HO_3.out).2.2 x7_3 p216 q216
               cases e216
               replace p216 := eq_true p216
               replace q216 := eq_true q216
               go_wp2
               go_roundg k3
               case measure => have := HK1.out; have := HK2.out; have := HK3.out; omega
               case rel => exact ⟨(wrap64 (x7_3 + 1)), rs, H', ⟨by have := HK1.out; have := HK2.out; have := HK3.out; omega⟩, ⟨rq HO_3⟩, ⟨bk BK209⟩, ⟨bq⟩⟩
              ·rw [if_neg c14] at H
               have c14b0 : (Op.bytesLess ((rdOf ByteArray.empty x3_2 x7_3).toList) ((rd_T101 ((rd_T105 l0_0 x4_1).f2) x5_2).f4).toList) = false := by simpa using c14
               clear c14
               by_cases c16 : x7_3 = (x3_2.length : Int)
               ·rw [if_pos c16] at H
                have c16b0 : (x7_3 == (x3_2.length : Int)) = true := beq_iff_eq.mpr c16
                have c16b1 : (x7_3 != (x3_2.length : Int)) = false := bne_eq_false_iff_eq.mpr c16
                clear c16
                obtain ⟨y217, hy_⟩ : ∃ y_ : List ByteArray, y_ = (([] : List ByteArray)) := ⟨_, rfl⟩
                replace H : (if x7_3 ≤ (x3_2.length : Int) then ((some (x3_2.take (x7_3 : Int).toNat : List ByteArray)).bind fun y220 => (if y217.length + y220.length < 8796093022208 then ((some (y217 ++ y220 : List ByteArray)).bind fun y224 => ((some (([((rd_T101 ((rd_T105 l0_0 x4_1).f2) x5_2).f4)] : List ByteArray) : List ByteArray)).bind fun y227 => (if y224.length + y227.length < 8796093022208 then ((some (y224 ++ y227 : List ByteArray)).bind fun y230 => ((some (x3_2.drop (x7_3 : Int).toNat : List ByteArray)).bind fun y233 => (if y230.length + y233.length < 8796093022208 then (spec_l5Names.l1 k3 (y230 ++ y233) x4_1 (wrap64 (x5_2 + 1)) l0_0) else (none)))) else (none)))) else (none))) else (none)) = some r := yh
                have Ny217 := ra hy_
                clear hy_
                have c17b0 := eq_true (od : 0 ≤ x7_3)
                by_cases c18 : x7_3 ≤ (x3_2.length : Int)
                ·rw [if_pos c18] at H
                 have c18b0 := eq_true c18
                 have c18b1 : decide (x7_3 ≤ (x3_2.length : Int)) = true := decide_eq_true c18
                 clear c18
                 obtain ⟨y220, hy_⟩ : ∃ y_ : List ByteArray, y_ = (x3_2.take (x7_3 : Int).toNat) := ⟨_, rfl⟩
                 replace H : (if y217.length + y220.length < 8796093022208 then ((some (y217 ++ y220 : List ByteArray)).bind fun y224 => ((some (([((rd_T101 ((rd_T105 l0_0 x4_1).f2) x5_2).f4)] : List ByteArray) : List ByteArray)).bind fun y227 => (if y224.length + y227.length < 8796093022208 then ((some (y224 ++ y227 : List ByteArray)).bind fun y230 => ((some (x3_2.drop (x7_3 : Int).toNat : List ByteArray)).bind fun y233 => (if y230.length + y233.length < 8796093022208 then (spec_l5Names.l1 k3 (y230 ++ y233) x4_1 (wrap64 (x5_2 + 1)) l0_0) else (none)))) else (none)))) else (none)) = some r := yh
                 have Ny220 := ra hy_
                 clear hy_
                 by_cases c19 : y217.length + y220.length < 8796093022208
                 ·rw [if_pos c19] at H
                  have LMc19 := Aside0.mk c19
                  clear c19
                  obtain ⟨y224, hy_⟩ : ∃ y_ : List ByteArray, y_ = (y217 ++ y220) := ⟨_, rfl⟩
                  replace H : ((some (([((rd_T101 ((rd_T105 l0_0 x4_1).f2) x5_2).f4)] : List ByteArray) : List ByteArray)).bind fun y227 => (if y224.length + y227.length < 8796093022208 then ((some (y224 ++ y227 : List ByteArray)).bind fun y230 => ((some (x3_2.drop (x7_3 : Int).toNat : List ByteArray)).bind fun y233 => (if y230.length + y233.length < 8796093022208 then (spec_l5Names.l1 k3 (y230 ++ y233) x4_1 (wrap64 (x5_2 + 1)) l0_0) else (none)))) else (none))) = some r := yh
                  have Ny224 := ra hy_
                  clear hy_
                  obtain ⟨y227, hy_⟩ : ∃ y_ : List ByteArray, y_ = (([((rd_T101 ((rd_T105 l0_0 x4_1).f2) x5_2).f4)] : List ByteArray)) := ⟨_, rfl⟩
                  replace H : (if y224.length + y227.length < 8796093022208 then ((some (y224 ++ y227 : List ByteArray)).bind fun y230 => ((some (x3_2.drop (x7_3 : Int).toNat : List ByteArray)).bind fun y233 => (if y230.length + y233.length < 8796093022208 then (spec_l5Names.l1 k3 (y230 ++ y233) x4_1 (wrap64 (x5_2 + 1)) l0_0) else (none)))) else (none)) = some r := yh
                  have Ny227 := ra hy_
                  clear hy_
                  by_cases c20 : y224.length + y227.length < 8796093022208
                  ·rw [if_pos c20] at H
                   have LMc20 := Aside0.mk c20
                   clear c20
                   obtain ⟨y230, hy_⟩ : ∃ y_ : List ByteArray, y_ = (y224 ++ y227) := ⟨_, rfl⟩
                   replace H : ((some (x3_2.drop (x7_3 : Int).toNat : List ByteArray)).bind fun y233 => (if y230.length + y233.length < 8796093022208 then (spec_l5Names.l1 k3 (y230 ++ y233) x4_1 (wrap64 (x5_2 + 1)) l0_0) else (none))) = some r := yh
                   have Ny230 := ra hy_
                   clear hy_
                   have c21b0 := eq_true (od : 0 ≤ x7_3)
                   have c22b0 := eq_true (od : x7_3 ≤ (x3_2.length : Int))
                   obtain ⟨y233, hy_⟩ : ∃ y_ : List ByteArray, y_ = (x3_2.drop (x7_3 : Int).toNat) := ⟨_, rfl⟩
                   replace H : (if y230.length + y233.length < 8796093022208 then (spec_l5Names.l1 k3 (y230 ++ y233) x4_1 (wrap64 (x5_2 + 1)) l0_0) else (none)) = some r := yh
                   have Ny233 := ra hy_
                   clear hy_
                   by_cases c23 : y230.length + y233.length < 8796093022208
                   ·rw [if_pos c23] at H
                    have LMc23 := Aside0.mk c23
                    clear c23
                    obtain ⟨y237, hy_⟩ : ∃ y_ : List ByteArray, y_ = (y230 ++ y233) := ⟨_, rfl⟩
                    replace H : (spec_l5Names.l1 k3 y237 x4_1 (wrap64 (x5_2 + 1)) l0_0) = some r := yh
                    have Ny237 := ra hy_
                    clear hy_
                    have H' := Aside0.mk H
                    clear H
                    obtain ⟨Ao24, co24, eo24⟩ := Kd.R_slice HO_3.out
                    subst eo24
                    have p216 : 0 ≤ (x7_3 : Int) := od
                    have q216 : x7_3 < (x3_2.length : Int) := od
                    obtain ⟨ad216, e216, hx216_0⟩ := Kd.at_string (Kd.R_reads' HO_3.out).2.2 x7_3 p216 q216
                    cases e216
                    replace p216 := eq_true p216
                    replace q216 := eq_true q216
                    try go_wp2
                    have _ := ra (Kd.R_drew HO_3.out)
                    have _ := ra (blk_drew BK209.out)
                    have _ := ra (below_drew1 HB.out)
                    clear HO_3 BK209 HB
                    rename_i HO_3 BK209 HB
                    have q26 : (x7_3 : Int) ≤ ((x3_2.length : Int) : Int) := od
                    obtain ⟨i026, hi026, _, hsz26, _⟩ := info_parts info9
                    have hroom26 : x3_2.length ≤ co24 := (Kd.R_reads' HO_3.out).2.1
                    have hC26 : Kd.C Kd.string _ (some ad216) x3_2.length x3_2 := (Kd.R_reads' HO_3.out).2.2
                    have hcut26 := cut_to (P := Try.prog) 109 9 .i64 Try.underlying109 hi026 (some ad216) x3_2.length co24 x7_3 (od) q26 hroom26
                    have hr26 := Kd.C_take (m := (x7_3 : Int).toNat) hC26 (by omega)
                    have hy26 : y220.length = (x7_3 : Int).toNat := (by rw [Ny220.out, List.length_take]; omega)
                    rw [← Ny220.out] at hr26
                    rw [← hy26] at hcut26
                    have HR223 := Aside0.mk hr26
                    have HC223 := ra (show y220.length ≤ co24 from by omega)
                    clear hr26 hC26 hroom26 hi026 hsz26
                    have KY26 := Aside0.mk hy26
                    clear hy26
                    have KL26 := ra (show (x7_3 : Int).toNat ≤ x3_2.length from by omega)
                    replace q26 := eq_true q26
                    have q27 : (x7_3 : Int) ≤ ((x3_2.length : Int) : Int) := od
                    obtain ⟨i027, hi027, _, hsz27, _⟩ := info_parts info9
                    have hroom27 : x3_2.length ≤ co24 := (Kd.R_reads' HO_3.out).2.1
                    have hC27 : Kd.C Kd.string _ (some ad216) x3_2.length x3_2 := (Kd.R_reads' HO_3.out).2.2
                    have q027 : (0 : Int) ≤ (x7_3 : Int) := od
                    have hcut27 := cut_from (P := Try.prog) 109 9 .i64 Try.underlying109 hi027 1 hsz27 (some ad216) x3_2.length co24 x7_3 q027 q27
                    have hr27 := Kd.C_drop (m := (x7_3 : Int).toNat) (c := co24) hC27 (by omega) hroom27
                    obtain ⟨A27, hA27⟩ : ∃ A1, A1 = (if co24 = (x7_3 : Int).toNat then (some ad216) else ((some ad216) : Option Addr).map (·.add ((x7_3 : Int).toNat * 1))) := ⟨_, rfl⟩
                    obtain ⟨c27, hc27⟩ : ∃ c1, c1 = co24 - (x7_3 : Int).toNat := ⟨_, rfl⟩
                    have hy27 : y233.length = x3_2.length - (x7_3 : Int).toNat := (by rw [Ny233.out, List.length_drop] <;> omega)
                    rw [show (x3_2).drop (x7_3 : Int).toNat = y233 from Ny233.out.symm] at hr27
                    replace hr27 : Kd.C Kd.string _ A27 y233.length y233 := (by rw [hA27]; exact hr27)
                    rw [← hy27, ← hA27, ← hc27] at hcut27
                    have HR236 := Aside0.mk hr27
                    have HC236 := ra (show y233.length ≤ c27 from by rw [hy27, hc27]; exact Nat.sub_le_sub_right hroom27 _)
                    clear hr27 hC27 hroom27 hi027 hsz27 hc27
                    have KY27 := Aside0.mk hy27
                    have KA27 := Aside0.mk hA27
                    clear hy27 hA27
                    have KL27 := ra (show (x7_3 : Int).toNat ≤ x3_2.length from by omega)
                    replace q27 := eq_true q27
                    refine start_ (n := 13) (S := fun w' => True) (ds := []) (bl 13 0) (by kernel_rfl) rfl rfl trivial (fun hHeld => ?_); refine with_tabW spec_l5Names.tab13 spec_l5Names.bits13 (fun HT_ HW_ => ?_)
                    generalize wr.drew = w25 at HO_3 BK209 HB HR223 HR236 hHeld ⊢
                    refine pu 1 64 (bl 13 2) ?_
                    refine pu 2 65 (bl 13 6) ?_
                    refine pu 3 66 (bl 13 14) ?_
                    refine pu 5 68 (bl 13 46) ?_
                    refine pu 8 71 (bl 13 302) ?_
                    refine pu 9 72 (bl 13 814) ?_
                    refine pu 10 73 (bl 13 1838) ?_
                    refine join_ (σ := Value × Value × Value) 3 #[true, true, true, true, true, true, true, false, true, true, true, false, false] (fun s_ => [(63, s_.1), (67, s_.2.1), (69, s_.2.2)]) (fun s_ w' => (Kd.R Kd.string 9 w' w.heap.size (fun k_ => some k_ ≠ (s_.2.2 : Value).ownBlock ∧ some k_ ≠ (.slice (some ad216) x3_2.length co24 : Value).ownBlock) s_.2.1 y224) ∧ (Kd.R Kd.string 9 w' w.heap.size (fun k_ => some k_ ≠ (s_.2.1 : Value).ownBlock ∧ some k_ ≠ (.slice (some ad216) x3_2.length co24 : Value).ownBlock) s_.2.2 y227) ∧ (Kd.R Kd.string 9 w' w.heap.size (fun k_ => some k_ ≠ (s_.2.1 : Value).ownBlock ∧ some k_ ≠ (s_.2.2 : Value).ownBlock) (.slice (some ad216) x3_2.length co24) x3_2) ∧ (Kd.C Kd.string w' (some ad216) y220.length y220) ∧ (Kd.C Kd.string w' A27 y233.length y233) ∧ (w'.heap[gb209]? = some (.cells #[.slice (some ad213) l0_0.length c0_0] 65 (0, 0))) ∧ (Below w.heap.size w w')) ?_ ?_
                    rotate_left
                    ·intro hCont
                     refine two_ (i := 0) (j := 6) (Ni := some 63) (Nj := some 69) #[true, true, true, true, false, true, false, false, true, true, true, false, false] #[false, true, true, true, false, true, true, false, true, true, true, false, false] rfl rfl rfl rfl (two_of HT_.out (by kernel_rfl)) (by decide) (by decide) (fun K hK => ?_) (fun K hK => ?_)
                     ·skip
                      refine Kd.R_lit_step Kd.string _ 9 ?hg (N := 63) ?hd (xs := ([] : List ByteArray)) (inner := []) (ok := fun _ => True) (okp := fun _ => True) ?hr ?hp (fun _ hk => hk) trivial (Below.refl _ _) (Nat.le_refl _) (by simp) ?_; (case hd => rfl); (case hg => rfl); (case hr => first | (go_simp; done) | (go_simp; rfl)); (case hp => exact (Reps.none _ _))
                      intro v218 w28 ho29 hb hg_ hnew_
                      clear hg_ hnew_
                      (first | rw [← Ny217.out] at ho29 | (simp only [Int.reduceToNat] at ho29; rw [← Ny217.out] at ho29))
                      have _ := ra (Kd.R_elder' (rq HO_3) (Kd.R_base ho29) hb)
                      have _ := ra (Kd.R_lower (Kd.R_new' ho29 (Kd.R_lt (rq HO_3))) (below_size bq))
                      have _ := bb (bk BK209) hb
                      have _ := ra (Kd.C_below (by repeat (first | (with_reducible exact HR223.out) | (with_reducible refine Kd.C_alloc ?_ _) | (with_reducible refine Kd.C_drewN ?_ _) | (with_reducible refine Kd.C_drew ?_) | exact HR223.out)) hb)
                      have _ := ra (Kd.C_below (by repeat (first | (with_reducible exact HR236.out) | (with_reducible refine Kd.C_alloc ?_ _) | (with_reducible refine Kd.C_drewN ?_ _) | (with_reducible refine Kd.C_drew ?_) | exact HR236.out)) hb)
                      have _ := bs hb
                      clear HO_3 BK209 HR223 HR236 HB
                      rename_i HO_3 HO219 BK209 HR223 HR236 HB
                      clear hb ho29
                      refine hK.out _ _ trivial (fun hHeld => ?_)
                      clear hK K
                      refine nm 63 ?_
                      refine two_ (i := 4) (j := 6) (Ni := some 67) (Nj := some 69) #[true, true, true, true, true, true, false, false, true, true, true, false, false] #[true, true, true, true, false, true, true, false, true, true, true, false, false] rfl rfl rfl rfl (two_of HT_.out (by kernel_rfl)) (by decide) (by decide) (fun K hK => ?_) (fun K hK => ?_)
                      ·skip
                       refine Kd.R_append_rows_step Kd.string (w0 := w) w.heap.size (by rfl) (.tmp 63) (.tmp 66) 109 9 (.string ⟨#[]⟩) 16 rfl Try.underlying109 info9 rfl (by decide) (by omega) v218 y217 y220 _ _ _ (fun k_ => some k_ ≠ (.slice (some ad216) x3_2.length co24 : Value).ownBlock) (fun _ => False) rfl rfl ?aO ?aR (fun _ _ h => h) (fun _ h => h.elim) ?aF ?aB ?aS ?aL ?_
                       (case aR => repeat (first | exact (by repeat (first | (with_reducible exact HR223.out) | (with_reducible refine Kd.C_alloc ?_ _) | (with_reducible refine Kd.C_drewN ?_ _) | (with_reducible refine Kd.C_drew ?_) | exact HR223.out)) | (with_reducible refine Kd.C_alloc ?_ _) | (with_reducible refine Kd.C_drewN ?_ _) | (with_reducible refine Kd.C_drew ?_)))
                       (case aB => exact bq)
                       (case aF => exact (fun k_ hk => Kd.fresh' (Kd.R_lt (rq HO_3)) k_ hk))
                       (case aO => exact (by (with_reducible repeat (first | apply Kd.R_alloc | apply Kd.R_drewN | apply Kd.R_drew)); exact Kd.R_mono HO219.out (fun _ hk => hk.2)))
                       (case aS => exact (below_size bq))
                       (case aL => have := LMc19.out; omega)
                       intro v225 w30 ho hb hg hat
                       rw [← Ny224.out] at ho
                       have _ := ra (Kd.R_after (ok := (fun _ => True)) (rq HO_3) hg hat)
                       have _ := ra (blk_grown (g := gb209) (o := .cells #[.slice (some ad213) l0_0.length c0_0] 65 (0, 0)) (bk BK209) hg (Kd.R_ne HO219.out BK209.out (by decide)))
                       have _ := ra (hb)
                       have _ := ra ((show Kd.C Kd.string w30 (some ad216) y220.length y220 from by rw [Ny220.out]; exact Kd.C_take (m := (x7_3 : Int).toNat) ((Kd.R_reads' (Kd.R_after (ok := (fun _ => True)) (rq HO_3) hg hat)).2.2) KL26.out))
                       have _ := ra ((show Kd.C Kd.string w30 A27 y233.length y233 from by rw [Ny233.out, KA27.out]; exact Kd.C_drop (m := (x7_3 : Int).toNat) (c := co24) ((Kd.R_reads' (Kd.R_after (ok := (fun _ => True)) (rq HO_3) hg hat)).2.2) KL27.out ((Kd.R_reads' (Kd.R_after (ok := (fun _ => True)) (rq HO_3) hg hat)).2.1)))
                       have _ := ra (ho)
                       clear HO_3 BK209 HB HR223 HR236 HO219
                       rename_i HO_3 BK209 HB HR223 HR236 HO226
                       clear ho hb hg hat
                       refine hK.out _ _ trivial (fun hHeld => ?_)
                       clear hK K
                       refine nm 67 ?_
                       refine oe 6 69 (bl 13 1919) (fun K hK => ?_)
                       refine Kd.R_lit_step Kd.string _ 9 ?hg (N := 69) ?hd (xs := ([((rd_T101 ((rd_T105 l0_0 x4_1).f2) x5_2).f4)] : List ByteArray)) (inner := [.string ((rd_T101 ((rd_T105 l0_0 x4_1).f2) x5_2).f4)]) (ok := fun _ => True) (okp := fun _ => True) ?hr ?hp (fun _ hk => hk) trivial (Below.refl _ _) (Nat.le_refl _) (by simp) ?_; (case hd => rfl); (case hg => rfl); (case hr => first | (go_simp; done) | (go_simp; rfl)); (case hp => exact (Reps.one (show Kd.M Kd.string _ _ _ ((rd_T101 ((rd_T105 l0_0 x4_1).f2) x5_2).f4) [.string ((rd_T101 ((rd_T105 l0_0 x4_1).f2) x5_2).f4)] from rfl) (Reps.none _ _)))
                       intro v228 w31 ho32 hb hg_ hnew_
                       clear hg_ hnew_
                       (first | rw [← Ny227.out] at ho32 | (simp only [Int.reduceToNat] at ho32; rw [← Ny227.out] at ho32))
                       have _ := ra (Kd.R_elder' (rq HO_3) (Kd.R_base ho32) hb)
                       have _ := ra (Kd.R_elder' (rq HO226) (Kd.R_base ho32) hb)
                       have _ := ra (Kd.R_lower (Kd.R_new' (Kd.R_new' ho32 (Kd.R_lt (rq HO_3))) (Kd.R_lt (rq HO226))) (below_size bq))
                       have _ := bb (bk BK209) hb
                       have _ := ra (Kd.C_below (by repeat (first | (with_reducible exact HR223.out) | (with_reducible refine Kd.C_alloc ?_ _) | (with_reducible refine Kd.C_drewN ?_ _) | (with_reducible refine Kd.C_drew ?_) | exact HR223.out)) hb)
                       have _ := ra (Kd.C_below (by repeat (first | (with_reducible exact HR236.out) | (with_reducible refine Kd.C_alloc ?_ _) | (with_reducible refine Kd.C_drewN ?_ _) | (with_reducible refine Kd.C_drew ?_) | exact HR236.out)) hb)
                       have _ := bs hb
                       clear HO_3 HO226 BK209 HR223 HR236 HB
                       rename_i HO_3 HO226 HO229 BK209 HR223 HR236 HB
                       clear hb ho32
                       refine hK.out _ _ trivial (fun hHeld => ?_)
                       clear hK K
                       refine nm 69 ?_
                       exact norm_ (by simp only [putAll, Act.put, List.setIfInBounds_toArray, List.set_cons_zero, List.set_cons_succ]) (hCont (v218, v225, v228) _ ⟨(by (with_reducible repeat (first | apply Kd.R_alloc | apply Kd.R_drewN | apply Kd.R_drew)); exact Kd.R_mono HO226.out (fun _ hk => ⟨hk.2, hk.1⟩)), (by (with_reducible repeat (first | apply Kd.R_alloc | apply Kd.R_drewN | apply Kd.R_drew)); exact Kd.R_mono HO229.out (fun _ hk => ⟨hk.2, hk.1.2⟩)), (by (with_reducible repeat (first | apply Kd.R_alloc | apply Kd.R_drewN | apply Kd.R_drew)); exact Kd.R_mono HO_3.out (fun _ hk => ⟨hk.1.2, hk.2⟩)), (by repeat (first | (with_reducible exact HR223.out) | (with_reducible refine Kd.C_alloc ?_ _) | (with_reducible refine Kd.C_drewN ?_ _) | (with_reducible refine Kd.C_drew ?_) | exact HR223.out)), (by repeat (first | (with_reducible exact HR236.out) | (with_reducible refine Kd.C_alloc ?_ _) | (with_reducible refine Kd.C_drewN ?_ _) | (with_reducible refine Kd.C_drew ?_) | exact HR236.out)), (bk BK209), bq⟩)
                      ·skip
                       refine Kd.R_lit_step Kd.string _ 9 ?hg (N := 69) ?hd (xs := ([((rd_T101 ((rd_T105 l0_0 x4_1).f2) x5_2).f4)] : List ByteArray)) (inner := [.string ((rd_T101 ((rd_T105 l0_0 x4_1).f2) x5_2).f4)]) (ok := fun _ => True) (okp := fun _ => True) ?hr ?hp (fun _ hk => hk) trivial (Below.refl _ _) (Nat.le_refl _) (by simp) ?_; (case hd => rfl); (case hg => rfl); (case hr => first | (go_simp; done) | (go_simp; rfl)); (case hp => exact (Reps.one (show Kd.M Kd.string _ _ _ ((rd_T101 ((rd_T105 l0_0 x4_1).f2) x5_2).f4) [.string ((rd_T101 ((rd_T105 l0_0 x4_1).f2) x5_2).f4)] from rfl) (Reps.none _ _)))
                       intro v228 w30 ho31 hb hg_ hnew_
                       clear hg_ hnew_
                       (first | rw [← Ny227.out] at ho31 | (simp only [Int.reduceToNat] at ho31; rw [← Ny227.out] at ho31))
                       have _ := ra (Kd.R_elder' (rq HO_3) (Kd.R_base ho31) hb)
                       have _ := ra (Kd.R_elder' (rq HO219) (Kd.R_base ho31) hb)
                       have _ := ra (Kd.R_lower (Kd.R_new' (Kd.R_new' ho31 (Kd.R_lt (rq HO_3))) (Kd.R_lt (rq HO219))) (below_size bq))
                       have _ := bb (bk BK209) hb
                       have _ := ra (Kd.C_below (by repeat (first | (with_reducible exact HR223.out) | (with_reducible refine Kd.C_alloc ?_ _) | (with_reducible refine Kd.C_drewN ?_ _) | (with_reducible refine Kd.C_drew ?_) | exact HR223.out)) hb)
                       have _ := ra (Kd.C_below (by repeat (first | (with_reducible exact HR236.out) | (with_reducible refine Kd.C_alloc ?_ _) | (with_reducible refine Kd.C_drewN ?_ _) | (with_reducible refine Kd.C_drew ?_) | exact HR236.out)) hb)
                       have _ := bs hb
                       clear HO_3 HO219 BK209 HR223 HR236 HB
                       rename_i HO_3 HO219 HO229 BK209 HR223 HR236 HB
                       clear hb ho31
                       refine hK.out _ _ trivial (fun hHeld => ?_)
                       clear hK K
                       refine nm 69 ?_
                       refine oe 4 67 (bl 13 1919) (fun K hK => ?_)
                       refine Kd.R_append_rows_step Kd.string (w0 := w) w.heap.size (by rfl) (.tmp 63) (.tmp 66) 109 9 (.string ⟨#[]⟩) 16 rfl Try.underlying109 info9 rfl (by decide) (by omega) v218 y217 y220 _ _ _ (fun k_ => some k_ ≠ (.slice (some ad216) x3_2.length co24 : Value).ownBlock ∧ some k_ ≠ (v228 : Value).ownBlock) (fun _ => False) rfl rfl ?aO ?aR (fun _ _ h => h) (fun _ h => h.elim) ?aF ?aB ?aS ?aL ?_
                       (case aR => repeat (first | exact (by repeat (first | (with_reducible exact HR223.out) | (with_reducible refine Kd.C_alloc ?_ _) | (with_reducible refine Kd.C_drewN ?_ _) | (with_reducible refine Kd.C_drew ?_) | exact HR223.out)) | (with_reducible refine Kd.C_alloc ?_ _) | (with_reducible refine Kd.C_drewN ?_ _) | (with_reducible refine Kd.C_drew ?_)))
                       (case aB => exact bq)
                       (case aF => exact (fun k_ hk => ⟨Kd.fresh' (Kd.R_lt (rq HO_3)) k_ hk, Kd.fresh' (Kd.R_lt (rq HO229)) k_ hk⟩))
                       (case aO => exact (by (with_reducible repeat (first | apply Kd.R_alloc | apply Kd.R_drewN | apply Kd.R_drew)); exact Kd.R_mono HO219.out (fun _ hk => ⟨hk.1.2, hk.2⟩)))
                       (case aS => exact (below_size bq))
                       (case aL => have := LMc19.out; omega)
                       intro v225 w32 ho hb hg hat
                       rw [← Ny224.out] at ho
                       have _ := ra (Kd.R_after (ok := (fun k_ => some k_ ≠ (v228 : Value).ownBlock)) (by (with_reducible repeat (first | apply Kd.R_alloc | apply Kd.R_drewN | apply Kd.R_drew)); exact Kd.R_mono HO_3.out (fun _ hk => ⟨hk.2, hk.1.2⟩)) hg hat)
                       have _ := ra (blk_grown (g := gb209) (o := .cells #[.slice (some ad213) l0_0.length c0_0] 65 (0, 0)) (bk BK209) hg (Kd.R_ne HO219.out BK209.out (by decide)))
                       have _ := ra (Kd.R_after (ok := (fun k_ => some k_ ≠ (.slice (some ad216) x3_2.length co24 : Value).ownBlock)) (by (with_reducible repeat (first | apply Kd.R_alloc | apply Kd.R_drewN | apply Kd.R_drew)); exact Kd.R_mono HO229.out (fun _ hk => ⟨hk.1.2, hk.2⟩)) hg hat)
                       have _ := ra (hb)
                       have _ := ra ((show Kd.C Kd.string w32 (some ad216) y220.length y220 from by rw [Ny220.out]; exact Kd.C_take (m := (x7_3 : Int).toNat) ((Kd.R_reads' (Kd.R_after (ok := (fun k_ => some k_ ≠ (v228 : Value).ownBlock)) (by (with_reducible repeat (first | apply Kd.R_alloc | apply Kd.R_drewN | apply Kd.R_drew)); exact Kd.R_mono HO_3.out (fun _ hk => ⟨hk.2, hk.1.2⟩)) hg hat)).2.2) KL26.out))
                       have _ := ra ((show Kd.C Kd.string w32 A27 y233.length y233 from by rw [Ny233.out, KA27.out]; exact Kd.C_drop (m := (x7_3 : Int).toNat) (c := co24) ((Kd.R_reads' (Kd.R_after (ok := (fun k_ => some k_ ≠ (v228 : Value).ownBlock)) (by (with_reducible repeat (first | apply Kd.R_alloc | apply Kd.R_drewN | apply Kd.R_drew)); exact Kd.R_mono HO_3.out (fun _ hk => ⟨hk.2, hk.1.2⟩)) hg hat)).2.2) KL27.out ((Kd.R_reads' (Kd.R_after (ok := (fun k_ => some k_ ≠ (v228 : Value).ownBlock)) (by (with_reducible repeat (first | apply Kd.R_alloc | apply Kd.R_drewN | apply Kd.R_drew)); exact Kd.R_mono HO_3.out (fun _ hk => ⟨hk.2, hk.1.2⟩)) hg hat)).2.1)))
                       have _ := ra (ho)
                       clear HO_3 BK209 HO229 HB HR223 HR236 HO219
                       rename_i HO_3 BK209 HO229 HB HR223 HR236 HO226
                       clear ho hb hg hat
                       refine hK.out _ _ trivial (fun hHeld => ?_)
                       clear hK K
                       refine nm 67 ?_
                       exact norm_ (by simp only [putAll, Act.put, List.setIfInBounds_toArray, List.set_cons_zero, List.set_cons_succ]) (hCont (v218, v225, v228) _ ⟨(by (with_reducible repeat (first | apply Kd.R_alloc | apply Kd.R_drewN | apply Kd.R_drew)); exact Kd.R_mono HO226.out (fun _ hk => ⟨hk.2, hk.1⟩)), (by (with_reducible repeat (first | apply Kd.R_alloc | apply Kd.R_drewN | apply Kd.R_drew)); exact Kd.R_mono HO229.out (fun _ hk => ⟨hk.2, hk.1⟩)), (by (with_reducible repeat (first | apply Kd.R_alloc | apply Kd.R_drewN | apply Kd.R_drew)); exact Kd.R_mono HO_3.out (fun _ hk => ⟨hk.2, hk.1⟩)), (by repeat (first | (with_reducible exact HR223.out) | (with_reducible refine Kd.C_alloc ?_ _) | (with_reducible refine Kd.C_drewN ?_ _) | (with_reducible refine Kd.C_drew ?_) | exact HR223.out)), (by repeat (first | (with_reducible exact HR236.out) | (with_reducible refine Kd.C_alloc ?_ _) | (with_reducible refine Kd.C_drewN ?_ _) | (with_reducible refine Kd.C_drew ?_) | exact HR236.out)), (bk BK209), bq⟩)
                     ·skip
                      refine Kd.R_lit_step Kd.string _ 9 ?hg (N := 69) ?hd (xs := ([((rd_T101 ((rd_T105 l0_0 x4_1).f2) x5_2).f4)] : List ByteArray)) (inner := [.string ((rd_T101 ((rd_T105 l0_0 x4_1).f2) x5_2).f4)]) (ok := fun _ => True) (okp := fun _ => True) ?hr ?hp (fun _ hk => hk) trivial (Below.refl _ _) (Nat.le_refl _) (by simp) ?_; (case hd => rfl); (case hg => rfl); (case hr => first | (go_simp; done) | (go_simp; rfl)); (case hp => exact (Reps.one (show Kd.M Kd.string _ _ _ ((rd_T101 ((rd_T105 l0_0 x4_1).f2) x5_2).f4) [.string ((rd_T101 ((rd_T105 l0_0 x4_1).f2) x5_2).f4)] from rfl) (Reps.none _ _)))
                      intro v228 w28 ho29 hb hg_ hnew_
                      clear hg_ hnew_
                      (first | rw [← Ny227.out] at ho29 | (simp only [Int.reduceToNat] at ho29; rw [← Ny227.out] at ho29))
                      have _ := ra (Kd.R_elder' (rq HO_3) (Kd.R_base ho29) hb)
                      have _ := ra (Kd.R_lower (Kd.R_new' ho29 (Kd.R_lt (rq HO_3))) (below_size bq))
                      have _ := bb (bk BK209) hb
                      have _ := ra (Kd.C_below (by repeat (first | (with_reducible exact HR223.out) | (with_reducible refine Kd.C_alloc ?_ _) | (with_reducible refine Kd.C_drewN ?_ _) | (with_reducible refine Kd.C_drew ?_) | exact HR223.out)) hb)
                      have _ := ra (Kd.C_below (by repeat (first | (with_reducible exact HR236.out) | (with_reducible refine Kd.C_alloc ?_ _) | (with_reducible refine Kd.C_drewN ?_ _) | (with_reducible refine Kd.C_drew ?_) | exact HR236.out)) hb)
                      have _ := bs hb
                      clear HO_3 BK209 HR223 HR236 HB
                      rename_i HO_3 HO229 BK209 HR223 HR236 HB
                      clear hb ho29
                      refine hK.out _ _ trivial (fun hHeld => ?_)
                      clear hK K
                      refine nm 69 ?_
                      refine oe 0 63 (bl 13 1903) (fun K hK => ?_)
                      refine Kd.R_lit_step Kd.string _ 9 ?hg (N := 63) ?hd (xs := ([] : List ByteArray)) (inner := []) (ok := fun _ => True) (okp := fun _ => True) ?hr ?hp (fun _ hk => hk) trivial (Below.refl _ _) (Nat.le_refl _) (by simp) ?_; (case hd => rfl); (case hg => rfl); (case hr => first | (go_simp; done) | (go_simp; rfl)); (case hp => exact (Reps.none _ _))
                      intro v218 w30 ho31 hb hg_ hnew_
                      clear hg_ hnew_
                      (first | rw [← Ny217.out] at ho31 | (simp only [Int.reduceToNat] at ho31; rw [← Ny217.out] at ho31))
                      have _ := ra (Kd.R_elder' (rq HO_3) (Kd.R_base ho31) hb)
                      have _ := ra (Kd.R_elder' (rq HO229) (Kd.R_base ho31) hb)
                      have _ := ra (Kd.R_lower (Kd.R_new' (Kd.R_new' ho31 (Kd.R_lt (rq HO_3))) (Kd.R_lt (rq HO229))) (below_size bq))
                      have _ := bb (bk BK209) hb
                      have _ := ra (Kd.C_below (by repeat (first | (with_reducible exact HR223.out) | (with_reducible refine Kd.C_alloc ?_ _) | (with_reducible refine Kd.C_drewN ?_ _) | (with_reducible refine Kd.C_drew ?_) | exact HR223.out)) hb)
                      have _ := ra (Kd.C_below (by repeat (first | (with_reducible exact HR236.out) | (with_reducible refine Kd.C_alloc ?_ _) | (with_reducible refine Kd.C_drewN ?_ _) | (with_reducible refine Kd.C_drew ?_) | exact HR236.out)) hb)
                      have _ := bs hb
                      clear HO_3 HO229 BK209 HR223 HR236 HB
                      rename_i HO_3 HO229 HO219 BK209 HR223 HR236 HB
                      clear hb ho31
                      refine hK.out _ _ trivial (fun hHeld => ?_)
                      clear hK K
                      refine nm 63 ?_
                      refine oe 4 67 (bl 13 1919) (fun K hK => ?_)
                      refine Kd.R_append_rows_step Kd.string (w0 := w) w.heap.size (by rfl) (.tmp 63) (.tmp 66) 109 9 (.string ⟨#[]⟩) 16 rfl Try.underlying109 info9 rfl (by decide) (by omega) v218 y217 y220 _ _ _ (fun k_ => some k_ ≠ (.slice (some ad216) x3_2.length co24 : Value).ownBlock ∧ some k_ ≠ (v228 : Value).ownBlock) (fun _ => False) rfl rfl ?aO ?aR (fun _ _ h => h) (fun _ h => h.elim) ?aF ?aB ?aS ?aL ?_
                      (case aR => repeat (first | exact (by repeat (first | (with_reducible exact HR223.out) | (with_reducible refine Kd.C_alloc ?_ _) | (with_reducible refine Kd.C_drewN ?_ _) | (with_reducible refine Kd.C_drew ?_) | exact HR223.out)) | (with_reducible refine Kd.C_alloc ?_ _) | (with_reducible refine Kd.C_drewN ?_ _) | (with_reducible refine Kd.C_drew ?_)))
                      (case aB => exact bq)
                      (case aF => exact (fun k_ hk => ⟨Kd.fresh' (Kd.R_lt (rq HO_3)) k_ hk, Kd.fresh' (Kd.R_lt (rq HO229)) k_ hk⟩))
                      (case aO => exact (by (with_reducible repeat (first | apply Kd.R_alloc | apply Kd.R_drewN | apply Kd.R_drew)); exact Kd.R_mono HO219.out (fun _ hk => ⟨hk.1.2, hk.2⟩)))
                      (case aS => exact (below_size bq))
                      (case aL => have := LMc19.out; omega)
                      intro v225 w32 ho hb hg hat
                      rw [← Ny224.out] at ho
                      have _ := ra (Kd.R_after (ok := (fun k_ => some k_ ≠ (v228 : Value).ownBlock)) (by (with_reducible repeat (first | apply Kd.R_alloc | apply Kd.R_drewN | apply Kd.R_drew)); exact Kd.R_mono HO_3.out (fun _ hk => ⟨hk.1.2, hk.2⟩)) hg hat)
                      have _ := ra (blk_grown (g := gb209) (o := .cells #[.slice (some ad213) l0_0.length c0_0] 65 (0, 0)) (bk BK209) hg (Kd.R_ne HO219.out BK209.out (by decide)))
                      have _ := ra (Kd.R_after (ok := (fun k_ => some k_ ≠ (.slice (some ad216) x3_2.length co24 : Value).ownBlock)) (by (with_reducible repeat (first | apply Kd.R_alloc | apply Kd.R_drewN | apply Kd.R_drew)); exact Kd.R_mono HO229.out (fun _ hk => ⟨hk.1.2, hk.2⟩)) hg hat)
                      have _ := ra (hb)
                      have _ := ra ((show Kd.C Kd.string w32 (some ad216) y220.length y220 from by rw [Ny220.out]; exact Kd.C_take (m := (x7_3 : Int).toNat) ((Kd.R_reads' (Kd.R_after (ok := (fun k_ => some k_ ≠ (v228 : Value).ownBlock)) (by (with_reducible repeat (first | apply Kd.R_alloc | apply Kd.R_drewN | apply Kd.R_drew)); exact Kd.R_mono HO_3.out (fun _ hk => ⟨hk.1.2, hk.2⟩)) hg hat)).2.2) KL26.out))
                      have _ := ra ((show Kd.C Kd.string w32 A27 y233.length y233 from by rw [Ny233.out, KA27.out]; exact Kd.C_drop (m := (x7_3 : Int).toNat) (c := co24) ((Kd.R_reads' (Kd.R_after (ok := (fun k_ => some k_ ≠ (v228 : Value).ownBlock)) (by (with_reducible repeat (first | apply Kd.R_alloc | apply Kd.R_drewN | apply Kd.R_drew)); exact Kd.R_mono HO_3.out (fun _ hk => ⟨hk.1.2, hk.2⟩)) hg hat)).2.2) KL27.out ((Kd.R_reads' (Kd.R_after (ok := (fun k_ => some k_ ≠ (v228 : Value).ownBlock)) (by (with_reducible repeat (first | apply Kd.R_alloc | apply Kd.R_drewN | apply Kd.R_drew)); exact Kd.R_mono HO_3.out (fun _ hk => ⟨hk.1.2, hk.2⟩)) hg hat)).2.1)))
                      have _ := ra (ho)
                      clear HO_3 BK209 HO229 HB HR223 HR236 HO219
                      rename_i HO_3 BK209 HO229 HB HR223 HR236 HO226
                      clear ho hb hg hat
                      refine hK.out _ _ trivial (fun hHeld => ?_)
                      clear hK K
                      refine nm 67 ?_
                      exact norm_ (by simp only [putAll, Act.put, List.setIfInBounds_toArray, List.set_cons_zero, List.set_cons_succ]) (hCont (v218, v225, v228) _ ⟨(by (with_reducible repeat (first | apply Kd.R_alloc | apply Kd.R_drewN | apply Kd.R_drew)); exact Kd.R_mono HO226.out (fun _ hk => ⟨hk.2, hk.1⟩)), (by (with_reducible repeat (first | apply Kd.R_alloc | apply Kd.R_drewN | apply Kd.R_drew)); exact Kd.R_mono HO229.out (fun _ hk => ⟨hk.2, hk.1⟩)), (by (with_reducible repeat (first | apply Kd.R_alloc | apply Kd.R_drewN | apply Kd.R_drew)); exact Kd.R_mono HO_3.out (fun _ hk => ⟨hk.2, hk.1⟩)), (by repeat (first | (with_reducible exact HR223.out) | (with_reducible refine Kd.C_alloc ?_ _) | (with_reducible refine Kd.C_drewN ?_ _) | (with_reducible refine Kd.C_drew ?_) | exact HR223.out)), (by repeat (first | (with_reducible exact HR236.out) | (with_reducible refine Kd.C_alloc ?_ _) | (with_reducible refine Kd.C_drewN ?_ _) | (with_reducible refine Kd.C_drew ?_) | exact HR236.out)), (bk BK209), bq⟩)
                    rintro ⟨v218, v225, v228⟩ w33 ⟨h0_, h1_, h2_, h3_, h4_, h5_, h6_⟩
                    have _ : Aside0 (Kd.R Kd.string 9 w33 w.heap.size (fun k_ => some k_ ≠ (v228 : Value).ownBlock ∧ some k_ ≠ (.slice (some ad216) x3_2.length co24 : Value).ownBlock) v225 y224) := ⟨h0_⟩
                    have _ : Aside0 (Kd.R Kd.string 9 w33 w.heap.size (fun k_ => some k_ ≠ (v225 : Value).ownBlock ∧ some k_ ≠ (.slice (some ad216) x3_2.length co24 : Value).ownBlock) v228 y227) := ⟨h1_⟩
                    have _ : Aside0 (Kd.R Kd.string 9 w33 w.heap.size (fun k_ => some k_ ≠ (v225 : Value).ownBlock ∧ some k_ ≠ (v228 : Value).ownBlock) (.slice (some ad216) x3_2.length co24) x3_2) := ⟨h2_⟩
                    have _ : Aside0 (Kd.C Kd.string w33 (some ad216) y220.length y220) := ⟨h3_⟩
                    have _ : Aside0 (Kd.C Kd.string w33 A27 y233.length y233) := ⟨h4_⟩
                    have _ : Aside0 (w33.heap[gb209]? = some (.cells #[.slice (some ad213) l0_0.length c0_0] 65 (0, 0))) := ⟨h5_⟩
                    have _ : Aside0 (Below w.heap.size w w33) := ⟨h6_⟩
                    clear HO_3 BK209 HB
                    clear h0_ h1_ h2_ h3_ h4_ h5_ h6_
                    rename_i HO226 HO229 HO_3 HR223 HR236 BK209 HB
                    have hHeld := trivial
                    obtain ⟨Ao35, co35, eo35⟩ := Kd.R_slice HO229.out
                    (first | subst eo35 | (injection eo35 with f1_ f2_ f3_; have f4_ := f1_.symm; have f5_ := f3_.symm; clear f1_ f2_ f3_; subst f4_; subst f5_))
                    refine norm_ (a' := ?_) ?_ ?_
                    rotate_left
                    ·simp only [putAll, Act.put, List.setIfInBounds_toArray, List.set_cons_zero, List.set_cons_succ]
                     rfl
                    refine oe 7 70 (bl 13 2047) (fun K hK => ?_)
                    refine Kd.R_append_rows_step Kd.string (w0 := w) w.heap.size (by rfl) (.tmp 67) (.tmp 69) 109 9 (.string ⟨#[]⟩) 16 rfl Try.underlying109 info9 rfl (by decide) (by omega) v225 y224 y227 _ _ _ (fun k_ => some k_ ≠ (.slice (some ad216) x3_2.length co24 : Value).ownBlock ∧ some k_ ≠ (.slice Ao35 y227.length co35 : Value).ownBlock) (fun _ => False) rfl rfl ?aO ?aR (fun _ _ h => h) (fun _ h => h.elim) ?aF ?aB ?aS ?aL ?_
                    (case aR => exact sr HO229)
                    (case aB => exact bq)
                    (case aF => exact (fun k_ hk => ⟨Kd.fresh' (Kd.R_lt (rq HO_3)) k_ hk, Kd.fresh' (Kd.R_lt (rq HO229)) k_ hk⟩))
                    (case aO => exact (by (with_reducible repeat (first | apply Kd.R_alloc | apply Kd.R_drewN | apply Kd.R_drew)); exact Kd.R_mono HO226.out (fun _ hk => ⟨hk.2, hk.1⟩)))
                    (case aS => exact (below_size bq))
                    (case aL => have := LMc20.out; omega)
                    intro v231 w34 ho hb hg hat
                    rw [← Ny230.out] at ho
                    have _ := ra (Kd.R_after (ok := (fun k_ => some k_ ≠ (.slice Ao35 y227.length co35 : Value).ownBlock)) (by (with_reducible repeat (first | apply Kd.R_alloc | apply Kd.R_drewN | apply Kd.R_drew)); exact Kd.R_mono HO_3.out (fun _ hk => ⟨hk.2, hk.1⟩)) hg hat)
                    have _ := ra (blk_grown (g := gb209) (o := .cells #[.slice (some ad213) l0_0.length c0_0] 65 (0, 0)) (bk BK209) hg (Kd.R_ne HO226.out BK209.out (by decide)))
                    have _ := ra (Kd.R_after (ok := (fun k_ => some k_ ≠ (.slice (some ad216) x3_2.length co24 : Value).ownBlock)) (by (with_reducible repeat (first | apply Kd.R_alloc | apply Kd.R_drewN | apply Kd.R_drew)); exact Kd.R_mono HO229.out (fun _ hk => ⟨hk.2, hk.1⟩)) hg hat)
                    have _ := ra (hb)
                    have _ := ra ((show Kd.C Kd.string w34 (some ad216) y220.length y220 from by rw [Ny220.out]; exact Kd.C_take (m := (x7_3 : Int).toNat) ((Kd.R_reads' (Kd.R_after (ok := (fun k_ => some k_ ≠ (.slice Ao35 y227.length co35 : Value).ownBlock)) (by (with_reducible repeat (first | apply Kd.R_alloc | apply Kd.R_drewN | apply Kd.R_drew)); exact Kd.R_mono HO_3.out (fun _ hk => ⟨hk.2, hk.1⟩)) hg hat)).2.2) KL26.out))
                    have _ := ra ((show Kd.C Kd.string w34 A27 y233.length y233 from by rw [Ny233.out, KA27.out]; exact Kd.C_drop (m := (x7_3 : Int).toNat) (c := co24) ((Kd.R_reads' (Kd.R_after (ok := (fun k_ => some k_ ≠ (.slice Ao35 y227.length co35 : Value).ownBlock)) (by (with_reducible repeat (first | apply Kd.R_alloc | apply Kd.R_drewN | apply Kd.R_drew)); exact Kd.R_mono HO_3.out (fun _ hk => ⟨hk.2, hk.1⟩)) hg hat)).2.2) KL27.out ((Kd.R_reads' (Kd.R_after (ok := (fun k_ => some k_ ≠ (.slice Ao35 y227.length co35 : Value).ownBlock)) (by (with_reducible repeat (first | apply Kd.R_alloc | apply Kd.R_drewN | apply Kd.R_drew)); exact Kd.R_mono HO_3.out (fun _ hk => ⟨hk.2, hk.1⟩)) hg hat)).2.1)))
                    have _ := ra (ho)
                    clear HO_3 BK209 HO229 HB HR223 HR236 HO226
                    rename_i HO_3 BK209 HO229 HB HR223 HR236 HO232
                    clear ho hb hg hat
                    refine hK.out _ _ trivial (fun hHeld => ?_)
                    clear hK K
                    refine nm 70 ?_
                    refine oe 11 74 (bl 13 4095) (fun K hK => ?_)
                    refine Kd.R_append_rows_step Kd.string (w0 := w) w.heap.size (by rfl) (.tmp 70) (.tmp 73) 109 9 (.string ⟨#[]⟩) 16 rfl Try.underlying109 info9 rfl (by decide) (by omega) v231 y230 y233 _ _ _ (fun k_ => some k_ ≠ (.slice (some ad216) x3_2.length co24 : Value).ownBlock ∧ some k_ ≠ (.slice Ao35 y227.length co35 : Value).ownBlock) (fun _ => False) rfl rfl ?aO ?aR (fun _ _ h => h) (fun _ h => h.elim) ?aF ?aB ?aS ?aL ?_
                    (case aR => repeat (first | exact (by repeat (first | (with_reducible exact HR236.out) | (with_reducible refine Kd.C_alloc ?_ _) | (with_reducible refine Kd.C_drewN ?_ _) | (with_reducible refine Kd.C_drew ?_) | exact HR236.out)) | (with_reducible refine Kd.C_alloc ?_ _) | (with_reducible refine Kd.C_drewN ?_ _) | (with_reducible refine Kd.C_drew ?_)))
                    (case aB => exact bq)
                    (case aF => exact (fun k_ hk => ⟨Kd.fresh' (Kd.R_lt (rq HO_3)) k_ hk, Kd.fresh' (Kd.R_lt (rq HO229)) k_ hk⟩))
                    (case aO => exact (rq HO232))
                    (case aS => exact (below_size bq))
                    (case aL => have := LMc23.out; omega)
                    intro v238 w36 ho hb hg hat
                    rw [← Ny237.out] at ho
                    have _ := ra (Kd.R_after (ok := (fun k_ => some k_ ≠ (.slice Ao35 y227.length co35 : Value).ownBlock)) (rq HO_3) hg hat)
                    have _ := ra (blk_grown (g := gb209) (o := .cells #[.slice (some ad213) l0_0.length c0_0] 65 (0, 0)) (bk BK209) hg (Kd.R_ne HO232.out BK209.out (by decide)))
                    have _ := ra (Kd.R_after (ok := (fun k_ => some k_ ≠ (.slice (some ad216) x3_2.length co24 : Value).ownBlock)) (rq HO229) hg hat)
                    have _ := ra (hb)
                    have _ := ra ((show Kd.C Kd.string w36 (some ad216) y220.length y220 from by rw [Ny220.out]; exact Kd.C_take (m := (x7_3 : Int).toNat) ((Kd.R_reads' (Kd.R_after (ok := (fun k_ => some k_ ≠ (.slice Ao35 y227.length co35 : Value).ownBlock)) (rq HO_3) hg hat)).2.2) KL26.out))
                    have _ := ra ((show Kd.C Kd.string w36 A27 y233.length y233 from by rw [Ny233.out, KA27.out]; exact Kd.C_drop (m := (x7_3 : Int).toNat) (c := co24) ((Kd.R_reads' (Kd.R_after (ok := (fun k_ => some k_ ≠ (.slice Ao35 y227.length co35 : Value).ownBlock)) (rq HO_3) hg hat)).2.2) KL27.out ((Kd.R_reads' (Kd.R_after (ok := (fun k_ => some k_ ≠ (.slice Ao35 y227.length co35 : Value).ownBlock)) (rq HO_3) hg hat)).2.1)))
                    have _ := ra (ho)
                    clear HO_3 BK209 HO229 HB HR223 HR236 HO232
                    rename_i HO_3 BK209 HO229 HB HR223 HR236 HO239
                    clear ho hb hg hat
                    refine hK.out _ _ trivial (fun hHeld => ?_)
                    clear hK K
                    refine nm 74 ?_
                    refine pu 12 3 (bl 13 8191) ?_
                    refine done_ (done_of HT_.out (by kernel_rfl)) ?_
                    try go_wp2
                    go_roundg k3
                    case measure => have := HK1.out; have := HK2.out; have := HK3.out; omega
                    case rel => exact ⟨(y237), (wrap64 (x5_2 + 1)), rs, H', ⟨by have := HK1.out; have := HK2.out; have := HK3.out; omega⟩, ⟨by (with_reducible repeat (first | apply Kd.R_alloc | apply Kd.R_drewN | apply Kd.R_drew)); exact Kd.R_mono HO239.out (fun _ hk => trivial)⟩, ⟨bk BK209⟩, ⟨bq⟩⟩
                   ·rw [if_neg c23] at H
                    exact absurd H (by simp)
                  ·rw [if_neg c20] at H
                   exact absurd H (by simp)
                 ·rw [if_neg c19] at H
                  exact absurd H (by simp)
                ·rw [if_neg c18] at H
                 exact absurd H (by simp)
               ·rw [if_neg c16] at H
                have c16b0 : (x7_3 == (x3_2.length : Int)) = false := beq_eq_false_iff_ne.mpr c16
                have c16b1 : (x7_3 != (x3_2.length : Int)) = true := bne_iff_ne.mpr c16
                by_cases c37 : (rdOf ByteArray.empty x3_2 x7_3).toList = ((rd_T101 ((rd_T105 l0_0 x4_1).f2) x5_2).f4).toList
                ·rw [if_pos c37] at H
                 have c37b0 : ((rdOf ByteArray.empty x3_2 x7_3).toList == ((rd_T101 ((rd_T105 l0_0 x4_1).f2) x5_2).f4).toList) = true := beq_iff_eq.mpr c37
                 have c37b1 : ((rdOf ByteArray.empty x3_2 x7_3).toList != ((rd_T101 ((rd_T105 l0_0 x4_1).f2) x5_2).f4).toList) = false := bne_eq_false_iff_eq.mpr c37
                 clear c37
                 have H' := Aside0.mk H
                 clear H
                 obtain ⟨Ao38, co38, eo38⟩ := Kd.R_slice HO_3.out
                 subst eo38
                 have p216 : 0 ≤ (x7_3 : Int) := od
                 have q216 : x7_3 < (x3_2.length : Int) := od
                 obtain ⟨ad216, e216, hx216_0⟩ := Kd.at_string (Kd.R_reads' HO_3.out).2.2 x7_3 p216 q216
                 cases e216
                 replace p216 := eq_true p216
                 replace q216 := eq_true q216
                 have p240 : 0 ≤ (x7_3 : Int) := od
                 have q240 : x7_3 < (x3_2.length : Int) := od
                 obtain ⟨ad240, e240, hx240_0⟩ := Kd.at_string (Kd.R_reads' HO_3.out).2.2 x7_3 p240 q240
                 obtain rfl : ad216 = ad240 := (by injection e240)
                 replace p240 := eq_true p240
                 replace q240 := eq_true q240
                 go_wp2
                 go_roundg k3
                 case measure => have := HK1.out; have := HK2.out; have := HK3.out; omega
                 case rel => exact ⟨(x3_2), (wrap64 (x5_2 + 1)), rs, H', ⟨by have := HK1.out; have := HK2.out; have := HK3.out; omega⟩, ⟨rq HO_3⟩, ⟨bk BK209⟩, ⟨bq⟩⟩
                ·rw [if_neg c37] at H
                 have c37b0 : ((rdOf ByteArray.empty x3_2 x7_3).toList == ((rd_T101 ((rd_T105 l0_0 x4_1).f2) x5_2).f4).toList) = false := beq_eq_false_iff_ne.mpr c37
                 have c37b1 : ((rdOf ByteArray.empty x3_2 x7_3).toList != ((rd_T101 ((rd_T105 l0_0 x4_1).f2) x5_2).f4).toList) = true := bne_iff_ne.mpr c37
                 obtain ⟨y241, hy_⟩ : ∃ y_ : List ByteArray, y_ = (([] : List ByteArray)) := ⟨_, rfl⟩
                 replace H : (if x7_3 ≤ (x3_2.length : Int) then ((some (x3_2.take (x7_3 : Int).toNat : List ByteArray)).bind fun y244 => (if y241.length + y244.length < 8796093022208 then ((some (y241 ++ y244 : List ByteArray)).bind fun y248 => ((some (([((rd_T101 ((rd_T105 l0_0 x4_1).f2) x5_2).f4)] : List ByteArray) : List ByteArray)).bind fun y251 => (if y248.length + y251.length < 8796093022208 then ((some (y248 ++ y251 : List ByteArray)).bind fun y254 => ((some (x3_2.drop (x7_3 : Int).toNat : List ByteArray)).bind fun y257 => (if y254.length + y257.length < 8796093022208 then (spec_l5Names.l1 k3 (y254 ++ y257) x4_1 (wrap64 (x5_2 + 1)) l0_0) else (none)))) else (none)))) else (none))) else (none)) = some r := yh
                 have Ny241 := ra hy_
                 clear hy_
                 have c39b0 := eq_true (od : 0 ≤ x7_3)
                 by_cases c40 : x7_3 ≤ (x3_2.length : Int)
                 ·rw [if_pos c40] at H
                  have c40b0 := eq_true c40
                  have c40b1 : decide (x7_3 ≤ (x3_2.length : Int)) = true := decide_eq_true c40
                  clear c40
                  obtain ⟨y244, hy_⟩ : ∃ y_ : List ByteArray, y_ = (x3_2.take (x7_3 : Int).toNat) := ⟨_, rfl⟩
                  replace H : (if y241.length + y244.length < 8796093022208 then ((some (y241 ++ y244 : List ByteArray)).bind fun y248 => ((some (([((rd_T101 ((rd_T105 l0_0 x4_1).f2) x5_2).f4)] : List ByteArray) : List ByteArray)).bind fun y251 => (if y248.length + y251.length < 8796093022208 then ((some (y248 ++ y251 : List ByteArray)).bind fun y254 => ((some (x3_2.drop (x7_3 : Int).toNat : List ByteArray)).bind fun y257 => (if y254.length + y257.length < 8796093022208 then (spec_l5Names.l1 k3 (y254 ++ y257) x4_1 (wrap64 (x5_2 + 1)) l0_0) else (none)))) else (none)))) else (none)) = some r := yh
                  have Ny244 := ra hy_
                  clear hy_
                  by_cases c41 : y241.length + y244.length < 8796093022208
                  ·rw [if_pos c41] at H
                   have LMc41 := Aside0.mk c41
                   clear c41
                   obtain ⟨y248, hy_⟩ : ∃ y_ : List ByteArray, y_ = (y241 ++ y244) := ⟨_, rfl⟩
                   replace H : ((some (([((rd_T101 ((rd_T105 l0_0 x4_1).f2) x5_2).f4)] : List ByteArray) : List ByteArray)).bind fun y251 => (if y248.length + y251.length < 8796093022208 then ((some (y248 ++ y251 : List ByteArray)).bind fun y254 => ((some (x3_2.drop (x7_3 : Int).toNat : List ByteArray)).bind fun y257 => (if y254.length + y257.length < 8796093022208 then (spec_l5Names.l1 k3 (y254 ++ y257) x4_1 (wrap64 (x5_2 + 1)) l0_0) else (none)))) else (none))) = some r := yh
                   have Ny248 := ra hy_
                   clear hy_
                   obtain ⟨y251, hy_⟩ : ∃ y_ : List ByteArray, y_ = (([((rd_T101 ((rd_T105 l0_0 x4_1).f2) x5_2).f4)] : List ByteArray)) := ⟨_, rfl⟩
                   replace H : (if y248.length + y251.length < 8796093022208 then ((some (y248 ++ y251 : List ByteArray)).bind fun y254 => ((some (x3_2.drop (x7_3 : Int).toNat : List ByteArray)).bind fun y257 => (if y254.length + y257.length < 8796093022208 then (spec_l5Names.l1 k3 (y254 ++ y257) x4_1 (wrap64 (x5_2 + 1)) l0_0) else (none)))) else (none)) = some r := yh
                   have Ny251 := ra hy_
                   clear hy_
                   by_cases c42 : y248.length + y251.length < 8796093022208
                   ·rw [if_pos c42] at H
                    have LMc42 := Aside0.mk c42
                    clear c42
                    obtain ⟨y254, hy_⟩ : ∃ y_ : List ByteArray, y_ = (y248 ++ y251) := ⟨_, rfl⟩
                    replace H : ((some (x3_2.drop (x7_3 : Int).toNat : List ByteArray)).bind fun y257 => (if y254.length + y257.length < 8796093022208 then (spec_l5Names.l1 k3 (y254 ++ y257) x4_1 (wrap64 (x5_2 + 1)) l0_0) else (none))) = some r := yh
                    have Ny254 := ra hy_
                    clear hy_
                    have c43b0 := eq_true (od : 0 ≤ x7_3)
                    have c44b0 := eq_true (od : x7_3 ≤ (x3_2.length : Int))
                    obtain ⟨y257, hy_⟩ : ∃ y_ : List ByteArray, y_ = (x3_2.drop (x7_3 : Int).toNat) := ⟨_, rfl⟩
                    replace H : (if y254.length + y257.length < 8796093022208 then (spec_l5Names.l1 k3 (y254 ++ y257) x4_1 (wrap64 (x5_2 + 1)) l0_0) else (none)) = some r := yh
                    have Ny257 := ra hy_
                    clear hy_
                    by_cases c45 : y254.length + y257.length < 8796093022208
                    ·rw [if_pos c45] at H
                     have LMc45 := Aside0.mk c45
                     clear c45
                     obtain ⟨y261, hy_⟩ : ∃ y_ : List ByteArray, y_ = (y254 ++ y257) := ⟨_, rfl⟩
                     replace H : (spec_l5Names.l1 k3 y261 x4_1 (wrap64 (x5_2 + 1)) l0_0) = some r := yh
                     have Ny261 := ra hy_
                     clear hy_
                     have H' := Aside0.mk H
                     clear H
                     obtain ⟨Ao46, co46, eo46⟩ := Kd.R_slice HO_3.out
                     subst eo46
                     have p216 : 0 ≤ (x7_3 : Int) := od
                     have q216 : x7_3 < (x3_2.length : Int) := od
                     obtain ⟨ad216, e216, hx216_0⟩ := Kd.at_string (Kd.R_reads' HO_3.out).2.2 x7_3 p216 q216
                     cases e216
                     replace p216 := eq_true p216
                     replace q216 := eq_true q216
                     have p240 : 0 ≤ (x7_3 : Int) := od
                     have q240 : x7_3 < (x3_2.length : Int) := od
                     obtain ⟨ad240, e240, hx240_0⟩ := Kd.at_string (Kd.R_reads' HO_3.out).2.2 x7_3 p240 q240
                     obtain rfl : ad216 = ad240 := (by injection e240)
                     replace p240 := eq_true p240
                     replace q240 := eq_true q240
                     try go_wp2
                     have _ := ra (Kd.R_drew HO_3.out)
                     have _ := ra (blk_drew BK209.out)
                     have _ := ra (below_drew1 HB.out)
                     clear HO_3 BK209 HB
                     rename_i HO_3 BK209 HB
                     have q48 : (x7_3 : Int) ≤ ((x3_2.length : Int) : Int) := od
                     obtain ⟨i048, hi048, _, hsz48, _⟩ := info_parts info9
                     have hroom48 : x3_2.length ≤ co46 := (Kd.R_reads' HO_3.out).2.1
                     have hC48 : Kd.C Kd.string _ (some ad216) x3_2.length x3_2 := (Kd.R_reads' HO_3.out).2.2
                     have hcut48 := cut_to (P := Try.prog) 109 9 .i64 Try.underlying109 hi048 (some ad216) x3_2.length co46 x7_3 (od) q48 hroom48
                     have hr48 := Kd.C_take (m := (x7_3 : Int).toNat) hC48 (by omega)
                     have hy48 : y244.length = (x7_3 : Int).toNat := (by rw [Ny244.out, List.length_take]; omega)
                     rw [← Ny244.out] at hr48
                     rw [← hy48] at hcut48
                     have HR247 := Aside0.mk hr48
                     have HC247 := ra (show y244.length ≤ co46 from by omega)
                     clear hr48 hC48 hroom48 hi048 hsz48
                     have KY48 := Aside0.mk hy48
                     clear hy48
                     have KL48 := ra (show (x7_3 : Int).toNat ≤ x3_2.length from by omega)
                     replace q48 := eq_true q48
                     have q49 : (x7_3 : Int) ≤ ((x3_2.length : Int) : Int) := od
                     obtain ⟨i049, hi049, _, hsz49, _⟩ := info_parts info9
                     have hroom49 : x3_2.length ≤ co46 := (Kd.R_reads' HO_3.out).2.1
                     have hC49 : Kd.C Kd.string _ (some ad216) x3_2.length x3_2 := (Kd.R_reads' HO_3.out).2.2
                     have q049 : (0 : Int) ≤ (x7_3 : Int) := od
                     have hcut49 := cut_from (P := Try.prog) 109 9 .i64 Try.underlying109 hi049 1 hsz49 (some ad216) x3_2.length co46 x7_3 q049 q49
                     have hr49 := Kd.C_drop (m := (x7_3 : Int).toNat) (c := co46) hC49 (by omega) hroom49
                     obtain ⟨A49, hA49⟩ : ∃ A1, A1 = (if co46 = (x7_3 : Int).toNat then (some ad216) else ((some ad216) : Option Addr).map (·.add ((x7_3 : Int).toNat * 1))) := ⟨_, rfl⟩
                     obtain ⟨c49, hc49⟩ : ∃ c1, c1 = co46 - (x7_3 : Int).toNat := ⟨_, rfl⟩
                     have hy49 : y257.length = x3_2.length - (x7_3 : Int).toNat := (by rw [Ny257.out, List.length_drop] <;> omega)
                     rw [show (x3_2).drop (x7_3 : Int).toNat = y257 from Ny257.out.symm] at hr49
                     replace hr49 : Kd.C Kd.string _ A49 y257.length y257 := (by rw [hA49]; exact hr49)
                     rw [← hy49, ← hA49, ← hc49] at hcut49
                     have HR260 := Aside0.mk hr49
                     have HC260 := ra (show y257.length ≤ c49 from by rw [hy49, hc49]; exact Nat.sub_le_sub_right hroom49 _)
                     clear hr49 hC49 hroom49 hi049 hsz49 hc49
                     have KY49 := Aside0.mk hy49
                     have KA49 := Aside0.mk hA49
                     clear hy49 hA49
                     have KL49 := ra (show (x7_3 : Int).toNat ≤ x3_2.length from by omega)
                     replace q49 := eq_true q49
                     refine start_ (n := 13) (S := fun w' => True) (ds := []) (bl 13 0) (by kernel_rfl) rfl rfl trivial (fun hHeld => ?_); refine with_tabW spec_l5Names.tab13 spec_l5Names.bits13 (fun HT_ HW_ => ?_)
                     generalize wr.drew = w47 at HO_3 BK209 HB HR247 HR260 hHeld ⊢
                     refine pu 1 64 (bl 13 2) ?_
                     refine pu 2 65 (bl 13 6) ?_
                     refine pu 3 66 (bl 13 14) ?_
                     refine pu 5 68 (bl 13 46) ?_
                     refine pu 8 71 (bl 13 302) ?_
                     refine pu 9 72 (bl 13 814) ?_
                     refine pu 10 73 (bl 13 1838) ?_
                     refine join_ (σ := Value × Value × Value) 3 #[true, true, true, true, true, true, true, false, true, true, true, false, false] (fun s_ => [(63, s_.1), (67, s_.2.1), (69, s_.2.2)]) (fun s_ w' => (Kd.R Kd.string 9 w' w.heap.size (fun k_ => some k_ ≠ (s_.2.2 : Value).ownBlock ∧ some k_ ≠ (.slice (some ad216) x3_2.length co46 : Value).ownBlock) s_.2.1 y248) ∧ (Kd.R Kd.string 9 w' w.heap.size (fun k_ => some k_ ≠ (s_.2.1 : Value).ownBlock ∧ some k_ ≠ (.slice (some ad216) x3_2.length co46 : Value).ownBlock) s_.2.2 y251) ∧ (Kd.R Kd.string 9 w' w.heap.size (fun k_ => some k_ ≠ (s_.2.1 : Value).ownBlock ∧ some k_ ≠ (s_.2.2 : Value).ownBlock) (.slice (some ad216) x3_2.length co46) x3_2) ∧ (Kd.C Kd.string w' (some ad216) y244.length y244) ∧ (Kd.C Kd.string w' A49 y257.length y257) ∧ (w'.heap[gb209]? = some (.cells #[.slice (some ad213) l0_0.length c0_0] 65 (0, 0))) ∧ (Below w.heap.size w w')) ?_ ?_
                     rotate_left
                     ·intro hCont
                      refine two_ (i := 0) (j := 6) (Ni := some 63) (Nj := some 69) #[true, true, true, true, false, true, false, false, true, true, true, false, false] #[false, true, true, true, false, true, true, false, true, true, true, false, false] rfl rfl rfl rfl (two_of HT_.out (by kernel_rfl)) (by decide) (by decide) (fun K hK => ?_) (fun K hK => ?_)
                      ·skip
                       refine Kd.R_lit_step Kd.string _ 9 ?hg (N := 63) ?hd (xs := ([] : List ByteArray)) (inner := []) (ok := fun _ => True) (okp := fun _ => True) ?hr ?hp (fun _ hk => hk) trivial (Below.refl _ _) (Nat.le_refl _) (by simp) ?_; (case hd => rfl); (case hg => rfl); (case hr => first | (go_simp; done) | (go_simp; rfl)); (case hp => exact (Reps.none _ _))
                       intro v242 w50 ho51 hb hg_ hnew_
                       clear hg_ hnew_
                       (first | rw [← Ny241.out] at ho51 | (simp only [Int.reduceToNat] at ho51; rw [← Ny241.out] at ho51))
                       have _ := ra (Kd.R_elder' (rq HO_3) (Kd.R_base ho51) hb)
                       have _ := ra (Kd.R_lower (Kd.R_new' ho51 (Kd.R_lt (rq HO_3))) (below_size bq))
                       have _ := bb (bk BK209) hb
                       have _ := ra (Kd.C_below (by repeat (first | (with_reducible exact HR247.out) | (with_reducible refine Kd.C_alloc ?_ _) | (with_reducible refine Kd.C_drewN ?_ _) | (with_reducible refine Kd.C_drew ?_) | exact HR247.out)) hb)
                       have _ := ra (Kd.C_below (by repeat (first | (with_reducible exact HR260.out) | (with_reducible refine Kd.C_alloc ?_ _) | (with_reducible refine Kd.C_drewN ?_ _) | (with_reducible refine Kd.C_drew ?_) | exact HR260.out)) hb)
                       have _ := bs hb
                       clear HO_3 BK209 HR247 HR260 HB
                       rename_i HO_3 HO243 BK209 HR247 HR260 HB
                       clear hb ho51
                       refine hK.out _ _ trivial (fun hHeld => ?_)
                       clear hK K
                       refine nm 63 ?_
                       refine two_ (i := 4) (j := 6) (Ni := some 67) (Nj := some 69) #[true, true, true, true, true, true, false, false, true, true, true, false, false] #[true, true, true, true, false, true, true, false, true, true, true, false, false] rfl rfl rfl rfl (two_of HT_.out (by kernel_rfl)) (by decide) (by decide) (fun K hK => ?_) (fun K hK => ?_)
                       ·skip
                        refine Kd.R_append_rows_step Kd.string (w0 := w) w.heap.size (by rfl) (.tmp 63) (.tmp 66) 109 9 (.string ⟨#[]⟩) 16 rfl Try.underlying109 info9 rfl (by decide) (by omega) v242 y241 y244 _ _ _ (fun k_ => some k_ ≠ (.slice (some ad216) x3_2.length co46 : Value).ownBlock) (fun _ => False) rfl rfl ?aO ?aR (fun _ _ h => h) (fun _ h => h.elim) ?aF ?aB ?aS ?aL ?_
                        (case aR => repeat (first | exact (by repeat (first | (with_reducible exact HR247.out) | (with_reducible refine Kd.C_alloc ?_ _) | (with_reducible refine Kd.C_drewN ?_ _) | (with_reducible refine Kd.C_drew ?_) | exact HR247.out)) | (with_reducible refine Kd.C_alloc ?_ _) | (with_reducible refine Kd.C_drewN ?_ _) | (with_reducible refine Kd.C_drew ?_)))
                        (case aB => exact bq)
                        (case aF => exact (fun k_ hk => Kd.fresh' (Kd.R_lt (rq HO_3)) k_ hk))
                        (case aO => exact (by (with_reducible repeat (first | apply Kd.R_alloc | apply Kd.R_drewN | apply Kd.R_drew)); exact Kd.R_mono HO243.out (fun _ hk => hk.2)))
                        (case aS => exact (below_size bq))
                        (case aL => have := LMc41.out; omega)
                        intro v249 w52 ho hb hg hat
                        rw [← Ny248.out] at ho
                        have _ := ra (Kd.R_after (ok := (fun _ => True)) (rq HO_3) hg hat)
                        have _ := ra (blk_grown (g := gb209) (o := .cells #[.slice (some ad213) l0_0.length c0_0] 65 (0, 0)) (bk BK209) hg (Kd.R_ne HO243.out BK209.out (by decide)))
                        have _ := ra (hb)
                        have _ := ra ((show Kd.C Kd.string w52 (some ad216) y244.length y244 from by rw [Ny244.out]; exact Kd.C_take (m := (x7_3 : Int).toNat) ((Kd.R_reads' (Kd.R_after (ok := (fun _ => True)) (rq HO_3) hg hat)).2.2) KL48.out))
                        have _ := ra ((show Kd.C Kd.string w52 A49 y257.length y257 from by rw [Ny257.out, KA49.out]; exact Kd.C_drop (m := (x7_3 : Int).toNat) (c := co46) ((Kd.R_reads' (Kd.R_after (ok := (fun _ => True)) (rq HO_3) hg hat)).2.2) KL49.out ((Kd.R_reads' (Kd.R_after (ok := (fun _ => True)) (rq HO_3) hg hat)).2.1)))
                        have _ := ra (ho)
                        clear HO_3 BK209 HB HR247 HR260 HO243
                        rename_i HO_3 BK209 HB HR247 HR260 HO250
                        clear ho hb hg hat
                        refine hK.out _ _ trivial (fun hHeld => ?_)
                        clear hK K
                        refine nm 67 ?_
                        refine oe 6 69 (bl 13 1919) (fun K hK => ?_)
                        refine Kd.R_lit_step Kd.string _ 9 ?hg (N := 69) ?hd (xs := ([((rd_T101 ((rd_T105 l0_0 x4_1).f2) x5_2).f4)] : List ByteArray)) (inner := [.string ((rd_T101 ((rd_T105 l0_0 x4_1).f2) x5_2).f4)]) (ok := fun _ => True) (okp := fun _ => True) ?hr ?hp (fun _ hk => hk) trivial (Below.refl _ _) (Nat.le_refl _) (by simp) ?_; (case hd => rfl); (case hg => rfl); (case hr => first | (go_simp; done) | (go_simp; rfl)); (case hp => exact (Reps.one (show Kd.M Kd.string _ _ _ ((rd_T101 ((rd_T105 l0_0 x4_1).f2) x5_2).f4) [.string ((rd_T101 ((rd_T105 l0_0 x4_1).f2) x5_2).f4)] from rfl) (Reps.none _ _)))
                        intro v252 w53 ho54 hb hg_ hnew_
                        clear hg_ hnew_
                        (first | rw [← Ny251.out] at ho54 | (simp only [Int.reduceToNat] at ho54; rw [← Ny251.out] at ho54))
                        have _ := ra (Kd.R_elder' (rq HO_3) (Kd.R_base ho54) hb)
                        have _ := ra (Kd.R_elder' (rq HO250) (Kd.R_base ho54) hb)
                        have _ := ra (Kd.R_lower (Kd.R_new' (Kd.R_new' ho54 (Kd.R_lt (rq HO_3))) (Kd.R_lt (rq HO250))) (below_size bq))
                        have _ := bb (bk BK209) hb
                        have _ := ra (Kd.C_below (by repeat (first | (with_reducible exact HR247.out) | (with_reducible refine Kd.C_alloc ?_ _) | (with_reducible refine Kd.C_drewN ?_ _) | (with_reducible refine Kd.C_drew ?_) | exact HR247.out)) hb)
                        have _ := ra (Kd.C_below (by repeat (first | (with_reducible exact HR260.out) | (with_reducible refine Kd.C_alloc ?_ _) | (with_reducible refine Kd.C_drewN ?_ _) | (with_reducible refine Kd.C_drew ?_) | exact HR260.out)) hb)
                        have _ := bs hb
                        clear HO_3 HO250 BK209 HR247 HR260 HB
                        rename_i HO_3 HO250 HO253 BK209 HR247 HR260 HB
                        clear hb ho54
                        refine hK.out _ _ trivial (fun hHeld => ?_)
                        clear hK K
                        refine nm 69 ?_
                        exact norm_ (by simp only [putAll, Act.put, List.setIfInBounds_toArray, List.set_cons_zero, List.set_cons_succ]) (hCont (v242, v249, v252) _ ⟨(by (with_reducible repeat (first | apply Kd.R_alloc | apply Kd.R_drewN | apply Kd.R_drew)); exact Kd.R_mono HO250.out (fun _ hk => ⟨hk.2, hk.1⟩)), (by (with_reducible repeat (first | apply Kd.R_alloc | apply Kd.R_drewN | apply Kd.R_drew)); exact Kd.R_mono HO253.out (fun _ hk => ⟨hk.2, hk.1.2⟩)), (by (with_reducible repeat (first | apply Kd.R_alloc | apply Kd.R_drewN | apply Kd.R_drew)); exact Kd.R_mono HO_3.out (fun _ hk => ⟨hk.1.2, hk.2⟩)), (by repeat (first | (with_reducible exact HR247.out) | (with_reducible refine Kd.C_alloc ?_ _) | (with_reducible refine Kd.C_drewN ?_ _) | (with_reducible refine Kd.C_drew ?_) | exact HR247.out)), (by repeat (first | (with_reducible exact HR260.out) | (with_reducible refine Kd.C_alloc ?_ _) | (with_reducible refine Kd.C_drewN ?_ _) | (with_reducible refine Kd.C_drew ?_) | exact HR260.out)), (bk BK209), bq⟩)
                       ·skip
                        refine Kd.R_lit_step Kd.string _ 9 ?hg (N := 69) ?hd (xs := ([((rd_T101 ((rd_T105 l0_0 x4_1).f2) x5_2).f4)] : List ByteArray)) (inner := [.string ((rd_T101 ((rd_T105 l0_0 x4_1).f2) x5_2).f4)]) (ok := fun _ => True) (okp := fun _ => True) ?hr ?hp (fun _ hk => hk) trivial (Below.refl _ _) (Nat.le_refl _) (by simp) ?_; (case hd => rfl); (case hg => rfl); (case hr => first | (go_simp; done) | (go_simp; rfl)); (case hp => exact (Reps.one (show Kd.M Kd.string _ _ _ ((rd_T101 ((rd_T105 l0_0 x4_1).f2) x5_2).f4) [.string ((rd_T101 ((rd_T105 l0_0 x4_1).f2) x5_2).f4)] from rfl) (Reps.none _ _)))
                        intro v252 w52 ho53 hb hg_ hnew_
                        clear hg_ hnew_
                        (first | rw [← Ny251.out] at ho53 | (simp only [Int.reduceToNat] at ho53; rw [← Ny251.out] at ho53))
                        have _ := ra (Kd.R_elder' (rq HO_3) (Kd.R_base ho53) hb)
                        have _ := ra (Kd.R_elder' (rq HO243) (Kd.R_base ho53) hb)
                        have _ := ra (Kd.R_lower (Kd.R_new' (Kd.R_new' ho53 (Kd.R_lt (rq HO_3))) (Kd.R_lt (rq HO243))) (below_size bq))
                        have _ := bb (bk BK209) hb
                        have _ := ra (Kd.C_below (by repeat (first | (with_reducible exact HR247.out) | (with_reducible refine Kd.C_alloc ?_ _) | (with_reducible refine Kd.C_drewN ?_ _) | (with_reducible refine Kd.C_drew ?_) | exact HR247.out)) hb)
                        have _ := ra (Kd.C_below (by repeat (first | (with_reducible exact HR260.out) | (with_reducible refine Kd.C_alloc ?_ _) | (with_reducible refine Kd.C_drewN ?_ _) | (with_reducible refine Kd.C_drew ?_) | exact HR260.out)) hb)
                        have _ := bs hb
                        clear HO_3 HO243 BK209 HR247 HR260 HB
                        rename_i HO_3 HO243 HO253 BK209 HR247 HR260 HB
                        clear hb ho53
                        refine hK.out _ _ trivial (fun hHeld => ?_)
                        clear hK K
                        refine nm 69 ?_
                        refine oe 4 67 (bl 13 1919) (fun K hK => ?_)
                        refine Kd.R_append_rows_step Kd.string (w0 := w) w.heap.size (by rfl) (.tmp 63) (.tmp 66) 109 9 (.string ⟨#[]⟩) 16 rfl Try.underlying109 info9 rfl (by decide) (by omega) v242 y241 y244 _ _ _ (fun k_ => some k_ ≠ (.slice (some ad216) x3_2.length co46 : Value).ownBlock ∧ some k_ ≠ (v252 : Value).ownBlock) (fun _ => False) rfl rfl ?aO ?aR (fun _ _ h => h) (fun _ h => h.elim) ?aF ?aB ?aS ?aL ?_
                        (case aR => repeat (first | exact (by repeat (first | (with_reducible exact HR247.out) | (with_reducible refine Kd.C_alloc ?_ _) | (with_reducible refine Kd.C_drewN ?_ _) | (with_reducible refine Kd.C_drew ?_) | exact HR247.out)) | (with_reducible refine Kd.C_alloc ?_ _) | (with_reducible refine Kd.C_drewN ?_ _) | (with_reducible refine Kd.C_drew ?_)))
                        (case aB => exact bq)
                        (case aF => exact (fun k_ hk => ⟨Kd.fresh' (Kd.R_lt (rq HO_3)) k_ hk, Kd.fresh' (Kd.R_lt (rq HO253)) k_ hk⟩))
                        (case aO => exact (by (with_reducible repeat (first | apply Kd.R_alloc | apply Kd.R_drewN | apply Kd.R_drew)); exact Kd.R_mono HO243.out (fun _ hk => ⟨hk.1.2, hk.2⟩)))
                        (case aS => exact (below_size bq))
                        (case aL => have := LMc41.out; omega)
                        intro v249 w54 ho hb hg hat
                        rw [← Ny248.out] at ho
                        have _ := ra (Kd.R_after (ok := (fun k_ => some k_ ≠ (v252 : Value).ownBlock)) (by (with_reducible repeat (first | apply Kd.R_alloc | apply Kd.R_drewN | apply Kd.R_drew)); exact Kd.R_mono HO_3.out (fun _ hk => ⟨hk.2, hk.1.2⟩)) hg hat)
                        have _ := ra (blk_grown (g := gb209) (o := .cells #[.slice (some ad213) l0_0.length c0_0] 65 (0, 0)) (bk BK209) hg (Kd.R_ne HO243.out BK209.out (by decide)))
                        have _ := ra (Kd.R_after (ok := (fun k_ => some k_ ≠ (.slice (some ad216) x3_2.length co46 : Value).ownBlock)) (by (with_reducible repeat (first | apply Kd.R_alloc | apply Kd.R_drewN | apply Kd.R_drew)); exact Kd.R_mono HO253.out (fun _ hk => ⟨hk.1.2, hk.2⟩)) hg hat)
                        have _ := ra (hb)
                        have _ := ra ((show Kd.C Kd.string w54 (some ad216) y244.length y244 from by rw [Ny244.out]; exact Kd.C_take (m := (x7_3 : Int).toNat) ((Kd.R_reads' (Kd.R_after (ok := (fun k_ => some k_ ≠ (v252 : Value).ownBlock)) (by (with_reducible repeat (first | apply Kd.R_alloc | apply Kd.R_drewN | apply Kd.R_drew)); exact Kd.R_mono HO_3.out (fun _ hk => ⟨hk.2, hk.1.2⟩)) hg hat)).2.2) KL48.out))
                        have _ := ra ((show Kd.C Kd.string w54 A49 y257.length y257 from by rw [Ny257.out, KA49.out]; exact Kd.C_drop (m := (x7_3 : Int).toNat) (c := co46) ((Kd.R_reads' (Kd.R_after (ok := (fun k_ => some k_ ≠ (v252 : Value).ownBlock)) (by (with_reducible repeat (first | apply Kd.R_alloc | apply Kd.R_drewN | apply Kd.R_drew)); exact Kd.R_mono HO_3.out (fun _ hk => ⟨hk.2, hk.1.2⟩)) hg hat)).2.2) KL49.out ((Kd.R_reads' (Kd.R_after (ok := (fun k_ => some k_ ≠ (v252 : Value).ownBlock)) (by (with_reducible repeat (first | apply Kd.R_alloc | apply Kd.R_drewN | apply Kd.R_drew)); exact Kd.R_mono HO_3.out (fun _ hk => ⟨hk.2, hk.1.2⟩)) hg hat)).2.1)))
                        have _ := ra (ho)
                        clear HO_3 BK209 HO253 HB HR247 HR260 HO243
                        rename_i HO_3 BK209 HO253 HB HR247 HR260 HO250
                        clear ho hb hg hat
                        refine hK.out _ _ trivial (fun hHeld => ?_)
                        clear hK K
                        refine nm 67 ?_
                        exact norm_ (by simp only [putAll, Act.put, List.setIfInBounds_toArray, List.set_cons_zero, List.set_cons_succ]) (hCont (v242, v249, v252) _ ⟨(by (with_reducible repeat (first | apply Kd.R_alloc | apply Kd.R_drewN | apply Kd.R_drew)); exact Kd.R_mono HO250.out (fun _ hk => ⟨hk.2, hk.1⟩)), (by (with_reducible repeat (first | apply Kd.R_alloc | apply Kd.R_drewN | apply Kd.R_drew)); exact Kd.R_mono HO253.out (fun _ hk => ⟨hk.2, hk.1⟩)), (by (with_reducible repeat (first | apply Kd.R_alloc | apply Kd.R_drewN | apply Kd.R_drew)); exact Kd.R_mono HO_3.out (fun _ hk => ⟨hk.2, hk.1⟩)), (by repeat (first | (with_reducible exact HR247.out) | (with_reducible refine Kd.C_alloc ?_ _) | (with_reducible refine Kd.C_drewN ?_ _) | (with_reducible refine Kd.C_drew ?_) | exact HR247.out)), (by repeat (first | (with_reducible exact HR260.out) | (with_reducible refine Kd.C_alloc ?_ _) | (with_reducible refine Kd.C_drewN ?_ _) | (with_reducible refine Kd.C_drew ?_) | exact HR260.out)), (bk BK209), bq⟩)
                      ·skip
                       refine Kd.R_lit_step Kd.string _ 9 ?hg (N := 69) ?hd (xs := ([((rd_T101 ((rd_T105 l0_0 x4_1).f2) x5_2).f4)] : List ByteArray)) (inner := [.string ((rd_T101 ((rd_T105 l0_0 x4_1).f2) x5_2).f4)]) (ok := fun _ => True) (okp := fun _ => True) ?hr ?hp (fun _ hk => hk) trivial (Below.refl _ _) (Nat.le_refl _) (by simp) ?_; (case hd => rfl); (case hg => rfl); (case hr => first | (go_simp; done) | (go_simp; rfl)); (case hp => exact (Reps.one (show Kd.M Kd.string _ _ _ ((rd_T101 ((rd_T105 l0_0 x4_1).f2) x5_2).f4) [.string ((rd_T101 ((rd_T105 l0_0 x4_1).f2) x5_2).f4)] from rfl) (Reps.none _ _)))
                       intro v252 w50 ho51 hb hg_ hnew_
                       clear hg_ hnew_
                       (first | rw [← Ny251.out] at ho51 | (simp only [Int.reduceToNat] at ho51; rw [← Ny251.out] at ho51))
                       have _ := ra (Kd.R_elder' (rq HO_3) (Kd.R_base ho51) hb)
                       have _ := ra (Kd.R_lower (Kd.R_new' ho51 (Kd.R_lt (rq HO_3))) (below_size bq))
                       have _ := bb (bk BK209) hb
                       have _ := ra (Kd.C_below (by repeat (first | (with_reducible exact HR247.out) | (with_reducible refine Kd.C_alloc ?_ _) | (with_reducible refine Kd.C_drewN ?_ _) | (with_reducible refine Kd.C_drew ?_) | exact HR247.out)) hb)
                       have _ := ra (Kd.C_below (by repeat (first | (with_reducible exact HR260.out) | (with_reducible refine Kd.C_alloc ?_ _) | (with_reducible refine Kd.C_drewN ?_ _) | (with_reducible refine Kd.C_drew ?_) | exact HR260.out)) hb)
                       have _ := bs hb
                       clear HO_3 BK209 HR247 HR260 HB
                       rename_i HO_3 HO253 BK209 HR247 HR260 HB
                       clear hb ho51
                       refine hK.out _ _ trivial (fun hHeld => ?_)
                       clear hK K
                       refine nm 69 ?_
                       refine oe 0 63 (bl 13 1903) (fun K hK => ?_)
                       refine Kd.R_lit_step Kd.string _ 9 ?hg (N := 63) ?hd (xs := ([] : List ByteArray)) (inner := []) (ok := fun _ => True) (okp := fun _ => True) ?hr ?hp (fun _ hk => hk) trivial (Below.refl _ _) (Nat.le_refl _) (by simp) ?_; (case hd => rfl); (case hg => rfl); (case hr => first | (go_simp; done) | (go_simp; rfl)); (case hp => exact (Reps.none _ _))
                       intro v242 w52 ho53 hb hg_ hnew_
                       clear hg_ hnew_
                       (first | rw [← Ny241.out] at ho53 | (simp only [Int.reduceToNat] at ho53; rw [← Ny241.out] at ho53))
                       have _ := ra (Kd.R_elder' (rq HO_3) (Kd.R_base ho53) hb)
                       have _ := ra (Kd.R_elder' (rq HO253) (Kd.R_base ho53) hb)
                       have _ := ra (Kd.R_lower (Kd.R_new' (Kd.R_new' ho53 (Kd.R_lt (rq HO_3))) (Kd.R_lt (rq HO253))) (below_size bq))
                       have _ := bb (bk BK209) hb
                       have _ := ra (Kd.C_below (by repeat (first | (with_reducible exact HR247.out) | (with_reducible refine Kd.C_alloc ?_ _) | (with_reducible refine Kd.C_drewN ?_ _) | (with_reducible refine Kd.C_drew ?_) | exact HR247.out)) hb)
                       have _ := ra (Kd.C_below (by repeat (first | (with_reducible exact HR260.out) | (with_reducible refine Kd.C_alloc ?_ _) | (with_reducible refine Kd.C_drewN ?_ _) | (with_reducible refine Kd.C_drew ?_) | exact HR260.out)) hb)
                       have _ := bs hb
                       clear HO_3 HO253 BK209 HR247 HR260 HB
                       rename_i HO_3 HO253 HO243 BK209 HR247 HR260 HB
                       clear hb ho53
                       refine hK.out _ _ trivial (fun hHeld => ?_)
                       clear hK K
                       refine nm 63 ?_
                       refine oe 4 67 (bl 13 1919) (fun K hK => ?_)
                       refine Kd.R_append_rows_step Kd.string (w0 := w) w.heap.size (by rfl) (.tmp 63) (.tmp 66) 109 9 (.string ⟨#[]⟩) 16 rfl Try.underlying109 info9 rfl (by decide) (by omega) v242 y241 y244 _ _ _ (fun k_ => some k_ ≠ (.slice (some ad216) x3_2.length co46 : Value).ownBlock ∧ some k_ ≠ (v252 : Value).ownBlock) (fun _ => False) rfl rfl ?aO ?aR (fun _ _ h => h) (fun _ h => h.elim) ?aF ?aB ?aS ?aL ?_
                       (case aR => repeat (first | exact (by repeat (first | (with_reducible exact HR247.out) | (with_reducible refine Kd.C_alloc ?_ _) | (with_reducible refine Kd.C_drewN ?_ _) | (with_reducible refine Kd.C_drew ?_) | exact HR247.out)) | (with_reducible refine Kd.C_alloc ?_ _) | (with_reducible refine Kd.C_drewN ?_ _) | (with_reducible refine Kd.C_drew ?_)))
                       (case aB => exact bq)
                       (case aF => exact (fun k_ hk => ⟨Kd.fresh' (Kd.R_lt (rq HO_3)) k_ hk, Kd.fresh' (Kd.R_lt (rq HO253)) k_ hk⟩))
                       (case aO => exact (by (with_reducible repeat (first | apply Kd.R_alloc | apply Kd.R_drewN | apply Kd.R_drew)); exact Kd.R_mono HO243.out (fun _ hk => ⟨hk.1.2, hk.2⟩)))
                       (case aS => exact (below_size bq))
                       (case aL => have := LMc41.out; omega)
                       intro v249 w54 ho hb hg hat
                       rw [← Ny248.out] at ho
                       have _ := ra (Kd.R_after (ok := (fun k_ => some k_ ≠ (v252 : Value).ownBlock)) (by (with_reducible repeat (first | apply Kd.R_alloc | apply Kd.R_drewN | apply Kd.R_drew)); exact Kd.R_mono HO_3.out (fun _ hk => ⟨hk.1.2, hk.2⟩)) hg hat)
                       have _ := ra (blk_grown (g := gb209) (o := .cells #[.slice (some ad213) l0_0.length c0_0] 65 (0, 0)) (bk BK209) hg (Kd.R_ne HO243.out BK209.out (by decide)))
                       have _ := ra (Kd.R_after (ok := (fun k_ => some k_ ≠ (.slice (some ad216) x3_2.length co46 : Value).ownBlock)) (by (with_reducible repeat (first | apply Kd.R_alloc | apply Kd.R_drewN | apply Kd.R_drew)); exact Kd.R_mono HO253.out (fun _ hk => ⟨hk.1.2, hk.2⟩)) hg hat)
                       have _ := ra (hb)
                       have _ := ra ((show Kd.C Kd.string w54 (some ad216) y244.length y244 from by rw [Ny244.out]; exact Kd.C_take (m := (x7_3 : Int).toNat) ((Kd.R_reads' (Kd.R_after (ok := (fun k_ => some k_ ≠ (v252 : Value).ownBlock)) (by (with_reducible repeat (first | apply Kd.R_alloc | apply Kd.R_drewN | apply Kd.R_drew)); exact Kd.R_mono HO_3.out (fun _ hk => ⟨hk.1.2, hk.2⟩)) hg hat)).2.2) KL48.out))
                       have _ := ra ((show Kd.C Kd.string w54 A49 y257.length y257 from by rw [Ny257.out, KA49.out]; exact Kd.C_drop (m := (x7_3 : Int).toNat) (c := co46) ((Kd.R_reads' (Kd.R_after (ok := (fun k_ => some k_ ≠ (v252 : Value).ownBlock)) (by (with_reducible repeat (first | apply Kd.R_alloc | apply Kd.R_drewN | apply Kd.R_drew)); exact Kd.R_mono HO_3.out (fun _ hk => ⟨hk.1.2, hk.2⟩)) hg hat)).2.2) KL49.out ((Kd.R_reads' (Kd.R_after (ok := (fun k_ => some k_ ≠ (v252 : Value).ownBlock)) (by (with_reducible repeat (first | apply Kd.R_alloc | apply Kd.R_drewN | apply Kd.R_drew)); exact Kd.R_mono HO_3.out (fun _ hk => ⟨hk.1.2, hk.2⟩)) hg hat)).2.1)))
                       have _ := ra (ho)
                       clear HO_3 BK209 HO253 HB HR247 HR260 HO243
                       rename_i HO_3 BK209 HO253 HB HR247 HR260 HO250
                       clear ho hb hg hat
                       refine hK.out _ _ trivial (fun hHeld => ?_)
                       clear hK K
                       refine nm 67 ?_
                       exact norm_ (by simp only [putAll, Act.put, List.setIfInBounds_toArray, List.set_cons_zero, List.set_cons_succ]) (hCont (v242, v249, v252) _ ⟨(by (with_reducible repeat (first | apply Kd.R_alloc | apply Kd.R_drewN | apply Kd.R_drew)); exact Kd.R_mono HO250.out (fun _ hk => ⟨hk.2, hk.1⟩)), (by (with_reducible repeat (first | apply Kd.R_alloc | apply Kd.R_drewN | apply Kd.R_drew)); exact Kd.R_mono HO253.out (fun _ hk => ⟨hk.2, hk.1⟩)), (by (with_reducible repeat (first | apply Kd.R_alloc | apply Kd.R_drewN | apply Kd.R_drew)); exact Kd.R_mono HO_3.out (fun _ hk => ⟨hk.2, hk.1⟩)), (by repeat (first | (with_reducible exact HR247.out) | (with_reducible refine Kd.C_alloc ?_ _) | (with_reducible refine Kd.C_drewN ?_ _) | (with_reducible refine Kd.C_drew ?_) | exact HR247.out)), (by repeat (first | (with_reducible exact HR260.out) | (with_reducible refine Kd.C_alloc ?_ _) | (with_reducible refine Kd.C_drewN ?_ _) | (with_reducible refine Kd.C_drew ?_) | exact HR260.out)), (bk BK209), bq⟩)
                     rintro ⟨v242, v249, v252⟩ w55 ⟨h0_, h1_, h2_, h3_, h4_, h5_, h6_⟩
                     have _ : Aside0 (Kd.R Kd.string 9 w55 w.heap.size (fun k_ => some k_ ≠ (v252 : Value).ownBlock ∧ some k_ ≠ (.slice (some ad216) x3_2.length co46 : Value).ownBlock) v249 y248) := ⟨h0_⟩
                     have _ : Aside0 (Kd.R Kd.string 9 w55 w.heap.size (fun k_ => some k_ ≠ (v249 : Value).ownBlock ∧ some k_ ≠ (.slice (some ad216) x3_2.length co46 : Value).ownBlock) v252 y251) := ⟨h1_⟩
                     have _ : Aside0 (Kd.R Kd.string 9 w55 w.heap.size (fun k_ => some k_ ≠ (v249 : Value).ownBlock ∧ some k_ ≠ (v252 : Value).ownBlock) (.slice (some ad216) x3_2.length co46) x3_2) := ⟨h2_⟩
                     have _ : Aside0 (Kd.C Kd.string w55 (some ad216) y244.length y244) := ⟨h3_⟩
                     have _ : Aside0 (Kd.C Kd.string w55 A49 y257.length y257) := ⟨h4_⟩
                     have _ : Aside0 (w55.heap[gb209]? = some (.cells #[.slice (some ad213) l0_0.length c0_0] 65 (0, 0))) := ⟨h5_⟩
                     have _ : Aside0 (Below w.heap.size w w55) := ⟨h6_⟩
                     clear HO_3 BK209 HB
                     clear h0_ h1_ h2_ h3_ h4_ h5_ h6_
                     rename_i HO250 HO253 HO_3 HR247 HR260 BK209 HB
                     have hHeld := trivial
                     obtain ⟨Ao57, co57, eo57⟩ := Kd.R_slice HO253.out
                     (first | subst eo57 | (injection eo57 with f1_ f2_ f3_; have f4_ := f1_.symm; have f5_ := f3_.symm; clear f1_ f2_ f3_; subst f4_; subst f5_))
                     refine norm_ (a' := ?_) ?_ ?_
                     rotate_left
                     ·simp only [putAll, Act.put, List.setIfInBounds_toArray, List.set_cons_zero, List.set_cons_succ]
                      rfl
                     refine oe 7 70 (bl 13 2047) (fun K hK => ?_)
                     refine Kd.R_append_rows_step Kd.string (w0 := w) w.heap.size (by rfl) (.tmp 67) (.tmp 69) 109 9 (.string ⟨#[]⟩) 16 rfl Try.underlying109 info9 rfl (by decide) (by omega) v249 y248 y251 _ _ _ (fun k_ => some k_ ≠ (.slice (some ad216) x3_2.length co46 : Value).ownBlock ∧ some k_ ≠ (.slice Ao57 y251.length co57 : Value).ownBlock) (fun _ => False) rfl rfl ?aO ?aR (fun _ _ h => h) (fun _ h => h.elim) ?aF ?aB ?aS ?aL ?_
                     (case aR => exact sr HO253)
                     (case aB => exact bq)
                     (case aF => exact (fun k_ hk => ⟨Kd.fresh' (Kd.R_lt (rq HO_3)) k_ hk, Kd.fresh' (Kd.R_lt (rq HO253)) k_ hk⟩))
                     (case aO => exact (by (with_reducible repeat (first | apply Kd.R_alloc | apply Kd.R_drewN | apply Kd.R_drew)); exact Kd.R_mono HO250.out (fun _ hk => ⟨hk.2, hk.1⟩)))
                     (case aS => exact (below_size bq))
                     (case aL => have := LMc42.out; omega)
                     intro v255 w56 ho hb hg hat
                     rw [← Ny254.out] at ho
                     have _ := ra (Kd.R_after (ok := (fun k_ => some k_ ≠ (.slice Ao57 y251.length co57 : Value).ownBlock)) (by (with_reducible repeat (first | apply Kd.R_alloc | apply Kd.R_drewN | apply Kd.R_drew)); exact Kd.R_mono HO_3.out (fun _ hk => ⟨hk.2, hk.1⟩)) hg hat)
                     have _ := ra (blk_grown (g := gb209) (o := .cells #[.slice (some ad213) l0_0.length c0_0] 65 (0, 0)) (bk BK209) hg (Kd.R_ne HO250.out BK209.out (by decide)))
                     have _ := ra (Kd.R_after (ok := (fun k_ => some k_ ≠ (.slice (some ad216) x3_2.length co46 : Value).ownBlock)) (by (with_reducible repeat (first | apply Kd.R_alloc | apply Kd.R_drewN | apply Kd.R_drew)); exact Kd.R_mono HO253.out (fun _ hk => ⟨hk.2, hk.1⟩)) hg hat)
                     have _ := ra (hb)
                     have _ := ra ((show Kd.C Kd.string w56 (some ad216) y244.length y244 from by rw [Ny244.out]; exact Kd.C_take (m := (x7_3 : Int).toNat) ((Kd.R_reads' (Kd.R_after (ok := (fun k_ => some k_ ≠ (.slice Ao57 y251.length co57 : Value).ownBlock)) (by (with_reducible repeat (first | apply Kd.R_alloc | apply Kd.R_drewN | apply Kd.R_drew)); exact Kd.R_mono HO_3.out (fun _ hk => ⟨hk.2, hk.1⟩)) hg hat)).2.2) KL48.out))
                     have _ := ra ((show Kd.C Kd.string w56 A49 y257.length y257 from by rw [Ny257.out, KA49.out]; exact Kd.C_drop (m := (x7_3 : Int).toNat) (c := co46) ((Kd.R_reads' (Kd.R_after (ok := (fun k_ => some k_ ≠ (.slice Ao57 y251.length co57 : Value).ownBlock)) (by (with_reducible repeat (first | apply Kd.R_alloc | apply Kd.R_drewN | apply Kd.R_drew)); exact Kd.R_mono HO_3.out (fun _ hk => ⟨hk.2, hk.1⟩)) hg hat)).2.2) KL49.out ((Kd.R_reads' (Kd.R_after (ok := (fun k_ => some k_ ≠ (.slice Ao57 y251.length co57 : Value).ownBlock)) (by (with_reducible repeat (first | apply Kd.R_alloc | apply Kd.R_drewN | apply Kd.R_drew)); exact Kd.R_mono HO_3.out (fun _ hk => ⟨hk.2, hk.1⟩)) hg hat)).2.1)))
                     have _ := ra (ho)
                     clear HO_3 BK209 HO253 HB HR247 HR260 HO250
                     rename_i HO_3 BK209 HO253 HB HR247 HR260 HO256
                     clear ho hb hg hat
                     refine hK.out _ _ trivial (fun hHeld => ?_)
                     clear hK K
                     refine nm 70 ?_
                     refine oe 11 74 (bl 13 4095) (fun K hK => ?_)
                     refine Kd.R_append_rows_step Kd.string (w0 := w) w.heap.size (by rfl) (.tmp 70) (.tmp 73) 109 9 (.string ⟨#[]⟩) 16 rfl Try.underlying109 info9 rfl (by decide) (by omega) v255 y254 y257 _ _ _ (fun k_ => some k_ ≠ (.slice (some ad216) x3_2.length co46 : Value).ownBlock ∧ some k_ ≠ (.slice Ao57 y251.length co57 : Value).ownBlock) (fun _ => False) rfl rfl ?aO ?aR (fun _ _ h => h) (fun _ h => h.elim) ?aF ?aB ?aS ?aL ?_
                     (case aR => repeat (first | exact (by repeat (first | (with_reducible exact HR260.out) | (with_reducible refine Kd.C_alloc ?_ _) | (with_reducible refine Kd.C_drewN ?_ _) | (with_reducible refine Kd.C_drew ?_) | exact HR260.out)) | (with_reducible refine Kd.C_alloc ?_ _) | (with_reducible refine Kd.C_drewN ?_ _) | (with_reducible refine Kd.C_drew ?_)))
                     (case aB => exact bq)
                     (case aF => exact (fun k_ hk => ⟨Kd.fresh' (Kd.R_lt (rq HO_3)) k_ hk, Kd.fresh' (Kd.R_lt (rq HO253)) k_ hk⟩))
                     (case aO => exact (rq HO256))
                     (case aS => exact (below_size bq))
                     (case aL => have := LMc45.out; omega)
                     intro v262 w58 ho hb hg hat
                     rw [← Ny261.out] at ho
                     have _ := ra (Kd.R_after (ok := (fun k_ => some k_ ≠ (.slice Ao57 y251.length co57 : Value).ownBlock)) (rq HO_3) hg hat)
                     have _ := ra (blk_grown (g := gb209) (o := .cells #[.slice (some ad213) l0_0.length c0_0] 65 (0, 0)) (bk BK209) hg (Kd.R_ne HO256.out BK209.out (by decide)))
                     have _ := ra (Kd.R_after (ok := (fun k_ => some k_ ≠ (.slice (some ad216) x3_2.length co46 : Value).ownBlock)) (rq HO253) hg hat)
                     have _ := ra (hb)
                     have _ := ra ((show Kd.C Kd.string w58 (some ad216) y244.length y244 from by rw [Ny244.out]; exact Kd.C_take (m := (x7_3 : Int).toNat) ((Kd.R_reads' (Kd.R_after (ok := (fun k_ => some k_ ≠ (.slice Ao57 y251.length co57 : Value).ownBlock)) (rq HO_3) hg hat)).2.2) KL48.out))
                     have _ := ra ((show Kd.C Kd.string w58 A49 y257.length y257 from by rw [Ny257.out, KA49.out]; exact Kd.C_drop (m := (x7_3 : Int).toNat) (c := co46) ((Kd.R_reads' (Kd.R_after (ok := (fun k_ => some k_ ≠ (.slice Ao57 y251.length co57 : Value).ownBlock)) (rq HO_3) hg hat)).2.2) KL49.out ((Kd.R_reads' (Kd.R_after (ok := (fun k_ => some k_ ≠ (.slice Ao57 y251.length co57 : Value).ownBlock)) (rq HO_3) hg hat)).2.1)))
                     have _ := ra (ho)
                     clear HO_3 BK209 HO253 HB HR247 HR260 HO256
                     rename_i HO_3 BK209 HO253 HB HR247 HR260 HO263
                     clear ho hb hg hat
                     refine hK.out _ _ trivial (fun hHeld => ?_)
                     clear hK K
                     refine nm 74 ?_
                     refine pu 12 3 (bl 13 8191) ?_
                     refine done_ (done_of HT_.out (by kernel_rfl)) ?_
                     try go_wp2
                     go_roundg k3
                     case measure => have := HK1.out; have := HK2.out; have := HK3.out; omega
                     case rel => exact ⟨(y261), (wrap64 (x5_2 + 1)), rs, H', ⟨by have := HK1.out; have := HK2.out; have := HK3.out; omega⟩, ⟨by (with_reducible repeat (first | apply Kd.R_alloc | apply Kd.R_drewN | apply Kd.R_drew)); exact Kd.R_mono HO263.out (fun _ hk => trivial)⟩, ⟨bk BK209⟩, ⟨bq⟩⟩
                    ·rw [if_neg c45] at H
                     exact absurd H (by simp)
                   ·rw [if_neg c42] at H
                    exact absurd H (by simp)
                  ·rw [if_neg c41] at H
                   exact absurd H (by simp)
                 ·rw [if_neg c40] at H
                  exact absurd H (by simp)
             ·rw [if_neg c13] at H
              exact absurd H (by simp)
            ·rw [if_neg c12] at H
             have c12b0 : decide (x7_3 < (x3_2.length : Int)) = false := decide_eq_false c12
             clear c12
             by_cases c59 : x7_3 = (x3_2.length : Int)
             ·rw [if_pos c59] at H
              have c59b0 : (x7_3 == (x3_2.length : Int)) = true := beq_iff_eq.mpr c59
              have c59b1 : (x7_3 != (x3_2.length : Int)) = false := bne_eq_false_iff_eq.mpr c59
              clear c59
              obtain ⟨y264, hy_⟩ : ∃ y_ : List ByteArray, y_ = (([] : List ByteArray)) := ⟨_, rfl⟩
              replace H : (if 0 ≤ x7_3 then (if x7_3 ≤ (x3_2.length : Int) then ((some (x3_2.take (x7_3 : Int).toNat : List ByteArray)).bind fun y267 => (if y264.length + y267.length < 8796093022208 then ((some (y264 ++ y267 : List ByteArray)).bind fun y271 => ((some (([((rd_T101 ((rd_T105 l0_0 x4_1).f2) x5_2).f4)] : List ByteArray) : List ByteArray)).bind fun y274 => (if y271.length + y274.length < 8796093022208 then ((some (y271 ++ y274 : List ByteArray)).bind fun y277 => ((some (x3_2.drop (x7_3 : Int).toNat : List ByteArray)).bind fun y280 => (if y277.length + y280.length < 8796093022208 then (spec_l5Names.l1 k3 (y277 ++ y280) x4_1 (wrap64 (x5_2 + 1)) l0_0) else (none)))) else (none)))) else (none))) else (none)) else (none)) = some r := yh
              have Ny264 := ra hy_
              clear hy_
              by_cases c60 : 0 ≤ x7_3
              ·rw [if_pos c60] at H
               have c60b0 := eq_true c60
               have c60b1 : decide (0 ≤ x7_3) = true := decide_eq_true c60
               clear c60
               by_cases c61 : x7_3 ≤ (x3_2.length : Int)
               ·rw [if_pos c61] at H
                have c61b0 := eq_true c61
                have c61b1 : decide (x7_3 ≤ (x3_2.length : Int)) = true := decide_eq_true c61
                clear c61
                obtain ⟨y267, hy_⟩ : ∃ y_ : List ByteArray, y_ = (x3_2.take (x7_3 : Int).toNat) := ⟨_, rfl⟩
                replace H : (if y264.length + y267.length < 8796093022208 then ((some (y264 ++ y267 : List ByteArray)).bind fun y271 => ((some (([((rd_T101 ((rd_T105 l0_0 x4_1).f2) x5_2).f4)] : List ByteArray) : List ByteArray)).bind fun y274 => (if y271.length + y274.length < 8796093022208 then ((some (y271 ++ y274 : List ByteArray)).bind fun y277 => ((some (x3_2.drop (x7_3 : Int).toNat : List ByteArray)).bind fun y280 => (if y277.length + y280.length < 8796093022208 then (spec_l5Names.l1 k3 (y277 ++ y280) x4_1 (wrap64 (x5_2 + 1)) l0_0) else (none)))) else (none)))) else (none)) = some r := yh
                have Ny267 := ra hy_
                clear hy_
                by_cases c62 : y264.length + y267.length < 8796093022208
                ·rw [if_pos c62] at H
                 have LMc62 := Aside0.mk c62
                 clear c62
                 obtain ⟨y271, hy_⟩ : ∃ y_ : List ByteArray, y_ = (y264 ++ y267) := ⟨_, rfl⟩
                 replace H : ((some (([((rd_T101 ((rd_T105 l0_0 x4_1).f2) x5_2).f4)] : List ByteArray) : List ByteArray)).bind fun y274 => (if y271.length + y274.length < 8796093022208 then ((some (y271 ++ y274 : List ByteArray)).bind fun y277 => ((some (x3_2.drop (x7_3 : Int).toNat : List ByteArray)).bind fun y280 => (if y277.length + y280.length < 8796093022208 then (spec_l5Names.l1 k3 (y277 ++ y280) x4_1 (wrap64 (x5_2 + 1)) l0_0) else (none)))) else (none))) = some r := yh
                 have Ny271 := ra hy_
                 clear hy_
                 obtain ⟨y274, hy_⟩ : ∃ y_ : List ByteArray, y_ = (([((rd_T101 ((rd_T105 l0_0 x4_1).f2) x5_2).f4)] : List ByteArray)) := ⟨_, rfl⟩
                 replace H : (if y271.length + y274.length < 8796093022208 then ((some (y271 ++ y274 : List ByteArray)).bind fun y277 => ((some (x3_2.drop (x7_3 : Int).toNat : List ByteArray)).bind fun y280 => (if y277.length + y280.length < 8796093022208 then (spec_l5Names.l1 k3 (y277 ++ y280) x4_1 (wrap64 (x5_2 + 1)) l0_0) else (none)))) else (none)) = some r := yh
                 have Ny274 := ra hy_
                 clear hy_
                 by_cases c63 : y271.length + y274.length < 8796093022208
                 ·rw [if_pos c63] at H
                  have LMc63 := Aside0.mk c63
                  clear c63
                  obtain ⟨y277, hy_⟩ : ∃ y_ : List ByteArray, y_ = (y271 ++ y274) := ⟨_, rfl⟩
                  replace H : ((some (x3_2.drop (x7_3 : Int).toNat : List ByteArray)).bind fun y280 => (if y277.length + y280.length < 8796093022208 then (spec_l5Names.l1 k3 (y277 ++ y280) x4_1 (wrap64 (x5_2 + 1)) l0_0) else (none))) = some r := yh
                  have Ny277 := ra hy_
                  clear hy_
                  have c64b0 := eq_true (od : 0 ≤ x7_3)
                  have c65b0 := eq_true (od : x7_3 ≤ (x3_2.length : Int))
                  obtain ⟨y280, hy_⟩ : ∃ y_ : List ByteArray, y_ = (x3_2.drop (x7_3 : Int).toNat) := ⟨_, rfl⟩
                  replace H : (if y277.length + y280.length < 8796093022208 then (spec_l5Names.l1 k3 (y277 ++ y280) x4_1 (wrap64 (x5_2 + 1)) l0_0) else (none)) = some r := yh
                  have Ny280 := ra hy_
                  clear hy_
                  by_cases c66 : y277.length + y280.length < 8796093022208
                  ·rw [if_pos c66] at H
                   have LMc66 := Aside0.mk c66
                   clear c66
                   obtain ⟨y284, hy_⟩ : ∃ y_ : List ByteArray, y_ = (y277 ++ y280) := ⟨_, rfl⟩
                   replace H : (spec_l5Names.l1 k3 y284 x4_1 (wrap64 (x5_2 + 1)) l0_0) = some r := yh
                   have Ny284 := ra hy_
                   clear hy_
                   have H' := Aside0.mk H
                   clear H
                   obtain ⟨Ao67, co67, eo67⟩ := Kd.R_slice HO_3.out
                   subst eo67
                   try go_wp2
                   have _ := ra (Kd.R_drew HO_3.out)
                   have _ := ra (blk_drew BK209.out)
                   have _ := ra (below_drew1 HB.out)
                   clear HO_3 BK209 HB
                   rename_i HO_3 BK209 HB
                   have q69 : (x7_3 : Int) ≤ ((x3_2.length : Int) : Int) := od
                   obtain ⟨i069, hi069, _, hsz69, _⟩ := info_parts info9
                   have hroom69 : x3_2.length ≤ co67 := (Kd.R_reads' HO_3.out).2.1
                   have hC69 : Kd.C Kd.string _ Ao67 x3_2.length x3_2 := (Kd.R_reads' HO_3.out).2.2
                   have hcut69 := cut_to (P := Try.prog) 109 9 .i64 Try.underlying109 hi069 Ao67 x3_2.length co67 x7_3 (od) q69 hroom69
                   have hr69 := Kd.C_take (m := (x7_3 : Int).toNat) hC69 (by omega)
                   have hy69 : y267.length = (x7_3 : Int).toNat := (by rw [Ny267.out, List.length_take]; omega)
                   rw [← Ny267.out] at hr69
                   rw [← hy69] at hcut69
                   have HR270 := Aside0.mk hr69
                   have HC270 := ra (show y267.length ≤ co67 from by omega)
                   clear hr69 hC69 hroom69 hi069 hsz69
                   have KY69 := Aside0.mk hy69
                   clear hy69
                   have KL69 := ra (show (x7_3 : Int).toNat ≤ x3_2.length from by omega)
                   replace q69 := eq_true q69
                   have q70 : (x7_3 : Int) ≤ ((x3_2.length : Int) : Int) := od
                   obtain ⟨i070, hi070, _, hsz70, _⟩ := info_parts info9
                   have hroom70 : x3_2.length ≤ co67 := (Kd.R_reads' HO_3.out).2.1
                   have hC70 : Kd.C Kd.string _ Ao67 x3_2.length x3_2 := (Kd.R_reads' HO_3.out).2.2
                   have q070 : (0 : Int) ≤ (x7_3 : Int) := od
                   have hcut70 := cut_from (P := Try.prog) 109 9 .i64 Try.underlying109 hi070 1 hsz70 Ao67 x3_2.length co67 x7_3 q070 q70
                   have hr70 := Kd.C_drop (m := (x7_3 : Int).toNat) (c := co67) hC70 (by omega) hroom70
                   obtain ⟨A70, hA70⟩ : ∃ A1, A1 = (if co67 = (x7_3 : Int).toNat then Ao67 else (Ao67 : Option Addr).map (·.add ((x7_3 : Int).toNat * 1))) := ⟨_, rfl⟩
                   obtain ⟨c70, hc70⟩ : ∃ c1, c1 = co67 - (x7_3 : Int).toNat := ⟨_, rfl⟩
                   have hy70 : y280.length = x3_2.length - (x7_3 : Int).toNat := (by rw [Ny280.out, List.length_drop] <;> omega)
                   rw [show (x3_2).drop (x7_3 : Int).toNat = y280 from Ny280.out.symm] at hr70
                   replace hr70 : Kd.C Kd.string _ A70 y280.length y280 := (by rw [hA70]; exact hr70)
                   rw [← hy70, ← hA70, ← hc70] at hcut70
                   have HR283 := Aside0.mk hr70
                   have HC283 := ra (show y280.length ≤ c70 from by rw [hy70, hc70]; exact Nat.sub_le_sub_right hroom70 _)
                   clear hr70 hC70 hroom70 hi070 hsz70 hc70
                   have KY70 := Aside0.mk hy70
                   have KA70 := Aside0.mk hA70
                   clear hy70 hA70
                   have KL70 := ra (show (x7_3 : Int).toNat ≤ x3_2.length from by omega)
                   replace q70 := eq_true q70
                   refine start_ (n := 13) (S := fun w' => True) (ds := []) (bl 13 0) (by kernel_rfl) rfl rfl trivial (fun hHeld => ?_); refine with_tabW spec_l5Names.tab13 spec_l5Names.bits13 (fun HT_ HW_ => ?_)
                   generalize wr.drew = w68 at HO_3 BK209 HB HR270 HR283 hHeld ⊢
                   refine pu 1 64 (bl 13 2) ?_
                   refine pu 2 65 (bl 13 6) ?_
                   refine pu 3 66 (bl 13 14) ?_
                   refine pu 5 68 (bl 13 46) ?_
                   refine pu 8 71 (bl 13 302) ?_
                   refine pu 9 72 (bl 13 814) ?_
                   refine pu 10 73 (bl 13 1838) ?_
                   refine join_ (σ := Value × Value × Value) 3 #[true, true, true, true, true, true, true, false, true, true, true, false, false] (fun s_ => [(63, s_.1), (67, s_.2.1), (69, s_.2.2)]) (fun s_ w' => (Kd.R Kd.string 9 w' w.heap.size (fun k_ => some k_ ≠ (s_.2.2 : Value).ownBlock ∧ some k_ ≠ (.slice Ao67 x3_2.length co67 : Value).ownBlock) s_.2.1 y271) ∧ (Kd.R Kd.string 9 w' w.heap.size (fun k_ => some k_ ≠ (s_.2.1 : Value).ownBlock ∧ some k_ ≠ (.slice Ao67 x3_2.length co67 : Value).ownBlock) s_.2.2 y274) ∧ (Kd.R Kd.string 9 w' w.heap.size (fun k_ => some k_ ≠ (s_.2.1 : Value).ownBlock ∧ some k_ ≠ (s_.2.2 : Value).ownBlock) (.slice Ao67 x3_2.length co67) x3_2) ∧ (Kd.C Kd.string w' Ao67 y267.length y267) ∧ (Kd.C Kd.string w' A70 y280.length y280) ∧ (w'.heap[gb209]? = some (.cells #[.slice (some ad213) l0_0.length c0_0] 65 (0, 0))) ∧ (Below w.heap.size w w')) ?_ ?_
                   rotate_left
                   ·intro hCont
                    refine two_ (i := 0) (j := 6) (Ni := some 63) (Nj := some 69) #[true, true, true, true, false, true, false, false, true, true, true, false, false] #[false, true, true, true, false, true, true, false, true, true, true, false, false] rfl rfl rfl rfl (two_of HT_.out (by kernel_rfl)) (by decide) (by decide) (fun K hK => ?_) (fun K hK => ?_)
                    ·skip
                     refine Kd.R_lit_step Kd.string _ 9 ?hg (N := 63) ?hd (xs := ([] : List ByteArray)) (inner := []) (ok := fun _ => True) (okp := fun _ => True) ?hr ?hp (fun _ hk => hk) trivial (Below.refl _ _) (Nat.le_refl _) (by simp) ?_; (case hd => rfl); (case hg => rfl); (case hr => first | (go_simp; done) | (go_simp; rfl)); (case hp => exact (Reps.none _ _))
                     intro v265 w71 ho72 hb hg_ hnew_
                     clear hg_ hnew_
                     (first | rw [← Ny264.out] at ho72 | (simp only [Int.reduceToNat] at ho72; rw [← Ny264.out] at ho72))
                     have _ := ra (Kd.R_elder' (rq HO_3) (Kd.R_base ho72) hb)
                     have _ := ra (Kd.R_lower (Kd.R_new' ho72 (Kd.R_lt (rq HO_3))) (below_size bq))
                     have _ := bb (bk BK209) hb
                     have _ := ra (Kd.C_below (by repeat (first | (with_reducible exact HR270.out) | (with_reducible refine Kd.C_alloc ?_ _) | (with_reducible refine Kd.C_drewN ?_ _) | (with_reducible refine Kd.C_drew ?_) | exact HR270.out)) hb)
                     have _ := ra (Kd.C_below (by repeat (first | (with_reducible exact HR283.out) | (with_reducible refine Kd.C_alloc ?_ _) | (with_reducible refine Kd.C_drewN ?_ _) | (with_reducible refine Kd.C_drew ?_) | exact HR283.out)) hb)
                     have _ := bs hb
                     clear HO_3 BK209 HR270 HR283 HB
                     rename_i HO_3 HO266 BK209 HR270 HR283 HB
                     clear hb ho72
                     refine hK.out _ _ trivial (fun hHeld => ?_)
                     clear hK K
                     refine nm 63 ?_
                     refine two_ (i := 4) (j := 6) (Ni := some 67) (Nj := some 69) #[true, true, true, true, true, true, false, false, true, true, true, false, false] #[true, true, true, true, false, true, true, false, true, true, true, false, false] rfl rfl rfl rfl (two_of HT_.out (by kernel_rfl)) (by decide) (by decide) (fun K hK => ?_) (fun K hK => ?_)
                     ·skip
                      refine Kd.R_append_rows_step Kd.string (w0 := w) w.heap.size (by rfl) (.tmp 63) (.tmp 66) 109 9 (.string ⟨#[]⟩) 16 rfl Try.underlying109 info9 rfl (by decide) (by omega) v265 y264 y267 _ _ _ (fun k_ => some k_ ≠ (.slice Ao67 x3_2.length co67 : Value).ownBlock) (fun _ => False) rfl rfl ?aO ?aR (fun _ _ h => h) (fun _ h => h.elim) ?aF ?aB ?aS ?aL ?_
                      (case aR => repeat (first | exact (by repeat (first | (with_reducible exact HR270.out) | (with_reducible refine Kd.C_alloc ?_ _) | (with_reducible refine Kd.C_drewN ?_ _) | (with_reducible refine Kd.C_drew ?_) | exact HR270.out)) | (with_reducible refine Kd.C_alloc ?_ _) | (with_reducible refine Kd.C_drewN ?_ _) | (with_reducible refine Kd.C_drew ?_)))
                      (case aB => exact bq)
                      (case aF => exact (fun k_ hk => Kd.fresh' (Kd.R_lt (rq HO_3)) k_ hk))
                      (case aO => exact (by (with_reducible repeat (first | apply Kd.R_alloc | apply Kd.R_drewN | apply Kd.R_drew)); exact Kd.R_mono HO266.out (fun _ hk => hk.2)))
                      (case aS => exact (below_size bq))
                      (case aL => have := LMc62.out; omega)
                      intro v272 w73 ho hb hg hat
                      rw [← Ny271.out] at ho
                      have _ := ra (Kd.R_after (ok := (fun _ => True)) (rq HO_3) hg hat)
                      have _ := ra (blk_grown (g := gb209) (o := .cells #[.slice (some ad213) l0_0.length c0_0] 65 (0, 0)) (bk BK209) hg (Kd.R_ne HO266.out BK209.out (by decide)))
                      have _ := ra (hb)
                      have _ := ra ((show Kd.C Kd.string w73 Ao67 y267.length y267 from by rw [Ny267.out]; exact Kd.C_take (m := (x7_3 : Int).toNat) ((Kd.R_reads' (Kd.R_after (ok := (fun _ => True)) (rq HO_3) hg hat)).2.2) KL69.out))
                      have _ := ra ((show Kd.C Kd.string w73 A70 y280.length y280 from by rw [Ny280.out, KA70.out]; exact Kd.C_drop (m := (x7_3 : Int).toNat) (c := co67) ((Kd.R_reads' (Kd.R_after (ok := (fun _ => True)) (rq HO_3) hg hat)).2.2) KL70.out ((Kd.R_reads' (Kd.R_after (ok := (fun _ => True)) (rq HO_3) hg hat)).2.1)))
                      have _ := ra (ho)
                      clear HO_3 BK209 HB HR270 HR283 HO266
                      rename_i HO_3 BK209 HB HR270 HR283 HO273
                      clear ho hb hg hat
                      refine hK.out _ _ trivial (fun hHeld => ?_)
                      clear hK K
                      refine nm 67 ?_
                      refine oe 6 69 (bl 13 1919) (fun K hK => ?_)
                      refine Kd.R_lit_step Kd.string _ 9 ?hg (N := 69) ?hd (xs := ([((rd_T101 ((rd_T105 l0_0 x4_1).f2) x5_2).f4)] : List ByteArray)) (inner := [.string ((rd_T101 ((rd_T105 l0_0 x4_1).f2) x5_2).f4)]) (ok := fun _ => True) (okp := fun _ => True) ?hr ?hp (fun _ hk => hk) trivial (Below.refl _ _) (Nat.le_refl _) (by simp) ?_; (case hd => rfl); (case hg => rfl); (case hr => first | (go_simp; done) | (go_simp; rfl)); (case hp => exact (Reps.one (show Kd.M Kd.string _ _ _ ((rd_T101 ((rd_T105 l0_0 x4_1).f2) x5_2).f4) [.string ((rd_T101 ((rd_T105 l0_0 x4_1).f2) x5_2).f4)] from rfl) (Reps.none _ _)))
                      intro v275 w74 ho75 hb hg_ hnew_
                      clear hg_ hnew_
                      (first | rw [← Ny274.out] at ho75 | (simp only [Int.reduceToNat] at ho75; rw [← Ny274.out] at ho75))
                      have _ := ra (Kd.R_elder' (rq HO_3) (Kd.R_base ho75) hb)
                      have _ := ra (Kd.R_elder' (rq HO273) (Kd.R_base ho75) hb)
                      have _ := ra (Kd.R_lower (Kd.R_new' (Kd.R_new' ho75 (Kd.R_lt (rq HO_3))) (Kd.R_lt (rq HO273))) (below_size bq))
                      have _ := bb (bk BK209) hb
                      have _ := ra (Kd.C_below (by repeat (first | (with_reducible exact HR270.out) | (with_reducible refine Kd.C_alloc ?_ _) | (with_reducible refine Kd.C_drewN ?_ _) | (with_reducible refine Kd.C_drew ?_) | exact HR270.out)) hb)
                      have _ := ra (Kd.C_below (by repeat (first | (with_reducible exact HR283.out) | (with_reducible refine Kd.C_alloc ?_ _) | (with_reducible refine Kd.C_drewN ?_ _) | (with_reducible refine Kd.C_drew ?_) | exact HR283.out)) hb)
                      have _ := bs hb
                      clear HO_3 HO273 BK209 HR270 HR283 HB
                      rename_i HO_3 HO273 HO276 BK209 HR270 HR283 HB
                      clear hb ho75
                      refine hK.out _ _ trivial (fun hHeld => ?_)
                      clear hK K
                      refine nm 69 ?_
                      exact norm_ (by simp only [putAll, Act.put, List.setIfInBounds_toArray, List.set_cons_zero, List.set_cons_succ]) (hCont (v265, v272, v275) _ ⟨(by (with_reducible repeat (first | apply Kd.R_alloc | apply Kd.R_drewN | apply Kd.R_drew)); exact Kd.R_mono HO273.out (fun _ hk => ⟨hk.2, hk.1⟩)), (by (with_reducible repeat (first | apply Kd.R_alloc | apply Kd.R_drewN | apply Kd.R_drew)); exact Kd.R_mono HO276.out (fun _ hk => ⟨hk.2, hk.1.2⟩)), (by (with_reducible repeat (first | apply Kd.R_alloc | apply Kd.R_drewN | apply Kd.R_drew)); exact Kd.R_mono HO_3.out (fun _ hk => ⟨hk.1.2, hk.2⟩)), (by repeat (first | (with_reducible exact HR270.out) | (with_reducible refine Kd.C_alloc ?_ _) | (with_reducible refine Kd.C_drewN ?_ _) | (with_reducible refine Kd.C_drew ?_) | exact HR270.out)), (by repeat (first | (with_reducible exact HR283.out) | (with_reducible refine Kd.C_alloc ?_ _) | (with_reducible refine Kd.C_drewN ?_ _) | (with_reducible refine Kd.C_drew ?_) | exact HR283.out)), (bk BK209), bq⟩)
                     ·skip
                      refine Kd.R_lit_step Kd.string _ 9 ?hg (N := 69) ?hd (xs := ([((rd_T101 ((rd_T105 l0_0 x4_1).f2) x5_2).f4)] : List ByteArray)) (inner := [.string ((rd_T101 ((rd_T105 l0_0 x4_1).f2) x5_2).f4)]) (ok := fun _ => True) (okp := fun _ => True) ?hr ?hp (fun _ hk => hk) trivial (Below.refl _ _) (Nat.le_refl _) (by simp) ?_; (case hd => rfl); (case hg => rfl); (case hr => first | (go_simp; done) | (go_simp; rfl)); (case hp => exact (Reps.one (show Kd.M Kd.string _ _ _ ((rd_T101 ((rd_T105 l0_0 x4_1).f2) x5_2).f4) [.string ((rd_T101 ((rd_T105 l0_0 x4_1).f2) x5_2).f4)] from rfl) (Reps.none _ _)))
                      intro v275 w73 ho74 hb hg_ hnew_
                      clear hg_ hnew_
                      (first | rw [← Ny274.out] at ho74 | (simp only [Int.reduceToNat] at ho74; rw [← Ny274.out] at ho74))
                      have _ := ra (Kd.R_elder' (rq HO_3) (Kd.R_base ho74) hb)
                      have _ := ra (Kd.R_elder' (rq HO266) (Kd.R_base ho74) hb)
                      have _ := ra (Kd.R_lower (Kd.R_new' (Kd.R_new' ho74 (Kd.R_lt (rq HO_3))) (Kd.R_lt (rq HO266))) (below_size bq))
                      have _ := bb (bk BK209) hb
                      have _ := ra (Kd.C_below (by repeat (first | (with_reducible exact HR270.out) | (with_reducible refine Kd.C_alloc ?_ _) | (with_reducible refine Kd.C_drewN ?_ _) | (with_reducible refine Kd.C_drew ?_) | exact HR270.out)) hb)
                      have _ := ra (Kd.C_below (by repeat (first | (with_reducible exact HR283.out) | (with_reducible refine Kd.C_alloc ?_ _) | (with_reducible refine Kd.C_drewN ?_ _) | (with_reducible refine Kd.C_drew ?_) | exact HR283.out)) hb)
                      have _ := bs hb
                      clear HO_3 HO266 BK209 HR270 HR283 HB
                      rename_i HO_3 HO266 HO276 BK209 HR270 HR283 HB
                      clear hb ho74
                      refine hK.out _ _ trivial (fun hHeld => ?_)
                      clear hK K
                      refine nm 69 ?_
                      refine oe 4 67 (bl 13 1919) (fun K hK => ?_)
                      refine Kd.R_append_rows_step Kd.string (w0 := w) w.heap.size (by rfl) (.tmp 63) (.tmp 66) 109 9 (.string ⟨#[]⟩) 16 rfl Try.underlying109 info9 rfl (by decide) (by omega) v265 y264 y267 _ _ _ (fun k_ => some k_ ≠ (.slice Ao67 x3_2.length co67 : Value).ownBlock ∧ some k_ ≠ (v275 : Value).ownBlock) (fun _ => False) rfl rfl ?aO ?aR (fun _ _ h => h) (fun _ h => h.elim) ?aF ?aB ?aS ?aL ?_
                      (case aR => repeat (first | exact (by repeat (first | (with_reducible exact HR270.out) | (with_reducible refine Kd.C_alloc ?_ _) | (with_reducible refine Kd.C_drewN ?_ _) | (with_reducible refine Kd.C_drew ?_) | exact HR270.out)) | (with_reducible refine Kd.C_alloc ?_ _) | (with_reducible refine Kd.C_drewN ?_ _) | (with_reducible refine Kd.C_drew ?_)))
                      (case aB => exact bq)
                      (case aF => exact (fun k_ hk => ⟨Kd.fresh' (Kd.R_lt (rq HO_3)) k_ hk, Kd.fresh' (Kd.R_lt (rq HO276)) k_ hk⟩))
                      (case aO => exact (by (with_reducible repeat (first | apply Kd.R_alloc | apply Kd.R_drewN | apply Kd.R_drew)); exact Kd.R_mono HO266.out (fun _ hk => ⟨hk.1.2, hk.2⟩)))
                      (case aS => exact (below_size bq))
                      (case aL => have := LMc62.out; omega)
                      intro v272 w75 ho hb hg hat
                      rw [← Ny271.out] at ho
                      have _ := ra (Kd.R_after (ok := (fun k_ => some k_ ≠ (v275 : Value).ownBlock)) (by (with_reducible repeat (first | apply Kd.R_alloc | apply Kd.R_drewN | apply Kd.R_drew)); exact Kd.R_mono HO_3.out (fun _ hk => ⟨hk.2, hk.1.2⟩)) hg hat)
                      have _ := ra (blk_grown (g := gb209) (o := .cells #[.slice (some ad213) l0_0.length c0_0] 65 (0, 0)) (bk BK209) hg (Kd.R_ne HO266.out BK209.out (by decide)))
                      have _ := ra (Kd.R_after (ok := (fun k_ => some k_ ≠ (.slice Ao67 x3_2.length co67 : Value).ownBlock)) (by (with_reducible repeat (first | apply Kd.R_alloc | apply Kd.R_drewN | apply Kd.R_drew)); exact Kd.R_mono HO276.out (fun _ hk => ⟨hk.1.2, hk.2⟩)) hg hat)
                      have _ := ra (hb)
                      have _ := ra ((show Kd.C Kd.string w75 Ao67 y267.length y267 from by rw [Ny267.out]; exact Kd.C_take (m := (x7_3 : Int).toNat) ((Kd.R_reads' (Kd.R_after (ok := (fun k_ => some k_ ≠ (v275 : Value).ownBlock)) (by (with_reducible repeat (first | apply Kd.R_alloc | apply Kd.R_drewN | apply Kd.R_drew)); exact Kd.R_mono HO_3.out (fun _ hk => ⟨hk.2, hk.1.2⟩)) hg hat)).2.2) KL69.out))
                      have _ := ra ((show Kd.C Kd.string w75 A70 y280.length y280 from by rw [Ny280.out, KA70.out]; exact Kd.C_drop (m := (x7_3 : Int).toNat) (c := co67) ((Kd.R_reads' (Kd.R_after (ok := (fun k_ => some k_ ≠ (v275 : Value).ownBlock)) (by (with_reducible repeat (first | apply Kd.R_alloc | apply Kd.R_drewN | apply Kd.R_drew)); exact Kd.R_mono HO_3.out (fun _ hk => ⟨hk.2, hk.1.2⟩)) hg hat)).2.2) KL70.out ((Kd.R_reads' (Kd.R_after (ok := (fun k_ => some k_ ≠ (v275 : Value).ownBlock)) (by (with_reducible repeat (first | apply Kd.R_alloc | apply Kd.R_drewN | apply Kd.R_drew)); exact Kd.R_mono HO_3.out (fun _ hk => ⟨hk.2, hk.1.2⟩)) hg hat)).2.1)))
                      have _ := ra (ho)
                      clear HO_3 BK209 HO276 HB HR270 HR283 HO266
                      rename_i HO_3 BK209 HO276 HB HR270 HR283 HO273
                      clear ho hb hg hat
                      refine hK.out _ _ trivial (fun hHeld => ?_)
                      clear hK K
                      refine nm 67 ?_
                      exact norm_ (by simp only [putAll, Act.put, List.setIfInBounds_toArray, List.set_cons_zero, List.set_cons_succ]) (hCont (v265, v272, v275) _ ⟨(by (with_reducible repeat (first | apply Kd.R_alloc | apply Kd.R_drewN | apply Kd.R_drew)); exact Kd.R_mono HO273.out (fun _ hk => ⟨hk.2, hk.1⟩)), (by (with_reducible repeat (first | apply Kd.R_alloc | apply Kd.R_drewN | apply Kd.R_drew)); exact Kd.R_mono HO276.out (fun _ hk => ⟨hk.2, hk.1⟩)), (by (with_reducible repeat (first | apply Kd.R_alloc | apply Kd.R_drewN | apply Kd.R_drew)); exact Kd.R_mono HO_3.out (fun _ hk => ⟨hk.2, hk.1⟩)), (by repeat (first | (with_reducible exact HR270.out) | (with_reducible refine Kd.C_alloc ?_ _) | (with_reducible refine Kd.C_drewN ?_ _) | (with_reducible refine Kd.C_drew ?_) | exact HR270.out)), (by repeat (first | (with_reducible exact HR283.out) | (with_reducible refine Kd.C_alloc ?_ _) | (with_reducible refine Kd.C_drewN ?_ _) | (with_reducible refine Kd.C_drew ?_) | exact HR283.out)), (bk BK209), bq⟩)
                    ·skip
                     refine Kd.R_lit_step Kd.string _ 9 ?hg (N := 69) ?hd (xs := ([((rd_T101 ((rd_T105 l0_0 x4_1).f2) x5_2).f4)] : List ByteArray)) (inner := [.string ((rd_T101 ((rd_T105 l0_0 x4_1).f2) x5_2).f4)]) (ok := fun _ => True) (okp := fun _ => True) ?hr ?hp (fun _ hk => hk) trivial (Below.refl _ _) (Nat.le_refl _) (by simp) ?_; (case hd => rfl); (case hg => rfl); (case hr => first | (go_simp; done) | (go_simp; rfl)); (case hp => exact (Reps.one (show Kd.M Kd.string _ _ _ ((rd_T101 ((rd_T105 l0_0 x4_1).f2) x5_2).f4) [.string ((rd_T101 ((rd_T105 l0_0 x4_1).f2) x5_2).f4)] from rfl) (Reps.none _ _)))
                     intro v275 w71 ho72 hb hg_ hnew_
                     clear hg_ hnew_
                     (first | rw [← Ny274.out] at ho72 | (simp only [Int.reduceToNat] at ho72; rw [← Ny274.out] at ho72))
                     have _ := ra (Kd.R_elder' (rq HO_3) (Kd.R_base ho72) hb)
                     have _ := ra (Kd.R_lower (Kd.R_new' ho72 (Kd.R_lt (rq HO_3))) (below_size bq))
                     have _ := bb (bk BK209) hb
                     have _ := ra (Kd.C_below (by repeat (first | (with_reducible exact HR270.out) | (with_reducible refine Kd.C_alloc ?_ _) | (with_reducible refine Kd.C_drewN ?_ _) | (with_reducible refine Kd.C_drew ?_) | exact HR270.out)) hb)
                     have _ := ra (Kd.C_below (by repeat (first | (with_reducible exact HR283.out) | (with_reducible refine Kd.C_alloc ?_ _) | (with_reducible refine Kd.C_drewN ?_ _) | (with_reducible refine Kd.C_drew ?_) | exact HR283.out)) hb)
                     have _ := bs hb
                     clear HO_3 BK209 HR270 HR283 HB
                     rename_i HO_3 HO276 BK209 HR270 HR283 HB
                     clear hb ho72
                     refine hK.out _ _ trivial (fun hHeld => ?_)
                     clear hK K
                     refine nm 69 ?_
                     refine oe 0 63 (bl 13 1903) (fun K hK => ?_)
                     refine Kd.R_lit_step Kd.string _ 9 ?hg (N := 63) ?hd (xs := ([] : List ByteArray)) (inner := []) (ok := fun _ => True) (okp := fun _ => True) ?hr ?hp (fun _ hk => hk) trivial (Below.refl _ _) (Nat.le_refl _) (by simp) ?_; (case hd => rfl); (case hg => rfl); (case hr => first | (go_simp; done) | (go_simp; rfl)); (case hp => exact (Reps.none _ _))
                     intro v265 w73 ho74 hb hg_ hnew_
                     clear hg_ hnew_
                     (first | rw [← Ny264.out] at ho74 | (simp only [Int.reduceToNat] at ho74; rw [← Ny264.out] at ho74))
                     have _ := ra (Kd.R_elder' (rq HO_3) (Kd.R_base ho74) hb)
                     have _ := ra (Kd.R_elder' (rq HO276) (Kd.R_base ho74) hb)
                     have _ := ra (Kd.R_lower (Kd.R_new' (Kd.R_new' ho74 (Kd.R_lt (rq HO_3))) (Kd.R_lt (rq HO276))) (below_size bq))
                     have _ := bb (bk BK209) hb
                     have _ := ra (Kd.C_below (by repeat (first | (with_reducible exact HR270.out) | (with_reducible refine Kd.C_alloc ?_ _) | (with_reducible refine Kd.C_drewN ?_ _) | (with_reducible refine Kd.C_drew ?_) | exact HR270.out)) hb)
                     have _ := ra (Kd.C_below (by repeat (first | (with_reducible exact HR283.out) | (with_reducible refine Kd.C_alloc ?_ _) | (with_reducible refine Kd.C_drewN ?_ _) | (with_reducible refine Kd.C_drew ?_) | exact HR283.out)) hb)
                     have _ := bs hb
                     clear HO_3 HO276 BK209 HR270 HR283 HB
                     rename_i HO_3 HO276 HO266 BK209 HR270 HR283 HB
                     clear hb ho74
                     refine hK.out _ _ trivial (fun hHeld => ?_)
                     clear hK K
                     refine nm 63 ?_
                     refine oe 4 67 (bl 13 1919) (fun K hK => ?_)
                     refine Kd.R_append_rows_step Kd.string (w0 := w) w.heap.size (by rfl) (.tmp 63) (.tmp 66) 109 9 (.string ⟨#[]⟩) 16 rfl Try.underlying109 info9 rfl (by decide) (by omega) v265 y264 y267 _ _ _ (fun k_ => some k_ ≠ (.slice Ao67 x3_2.length co67 : Value).ownBlock ∧ some k_ ≠ (v275 : Value).ownBlock) (fun _ => False) rfl rfl ?aO ?aR (fun _ _ h => h) (fun _ h => h.elim) ?aF ?aB ?aS ?aL ?_
                     (case aR => repeat (first | exact (by repeat (first | (with_reducible exact HR270.out) | (with_reducible refine Kd.C_alloc ?_ _) | (with_reducible refine Kd.C_drewN ?_ _) | (with_reducible refine Kd.C_drew ?_) | exact HR270.out)) | (with_reducible refine Kd.C_alloc ?_ _) | (with_reducible refine Kd.C_drewN ?_ _) | (with_reducible refine Kd.C_drew ?_)))
                     (case aB => exact bq)
                     (case aF => exact (fun k_ hk => ⟨Kd.fresh' (Kd.R_lt (rq HO_3)) k_ hk, Kd.fresh' (Kd.R_lt (rq HO276)) k_ hk⟩))
                     (case aO => exact (by (with_reducible repeat (first | apply Kd.R_alloc | apply Kd.R_drewN | apply Kd.R_drew)); exact Kd.R_mono HO266.out (fun _ hk => ⟨hk.1.2, hk.2⟩)))
                     (case aS => exact (below_size bq))
                     (case aL => have := LMc62.out; omega)
                     intro v272 w75 ho hb hg hat
                     rw [← Ny271.out] at ho
                     have _ := ra (Kd.R_after (ok := (fun k_ => some k_ ≠ (v275 : Value).ownBlock)) (by (with_reducible repeat (first | apply Kd.R_alloc | apply Kd.R_drewN | apply Kd.R_drew)); exact Kd.R_mono HO_3.out (fun _ hk => ⟨hk.1.2, hk.2⟩)) hg hat)
                     have _ := ra (blk_grown (g := gb209) (o := .cells #[.slice (some ad213) l0_0.length c0_0] 65 (0, 0)) (bk BK209) hg (Kd.R_ne HO266.out BK209.out (by decide)))
                     have _ := ra (Kd.R_after (ok := (fun k_ => some k_ ≠ (.slice Ao67 x3_2.length co67 : Value).ownBlock)) (by (with_reducible repeat (first | apply Kd.R_alloc | apply Kd.R_drewN | apply Kd.R_drew)); exact Kd.R_mono HO276.out (fun _ hk => ⟨hk.1.2, hk.2⟩)) hg hat)
                     have _ := ra (hb)
                     have _ := ra ((show Kd.C Kd.string w75 Ao67 y267.length y267 from by rw [Ny267.out]; exact Kd.C_take (m := (x7_3 : Int).toNat) ((Kd.R_reads' (Kd.R_after (ok := (fun k_ => some k_ ≠ (v275 : Value).ownBlock)) (by (with_reducible repeat (first | apply Kd.R_alloc | apply Kd.R_drewN | apply Kd.R_drew)); exact Kd.R_mono HO_3.out (fun _ hk => ⟨hk.1.2, hk.2⟩)) hg hat)).2.2) KL69.out))
                     have _ := ra ((show Kd.C Kd.string w75 A70 y280.length y280 from by rw [Ny280.out, KA70.out]; exact Kd.C_drop (m := (x7_3 : Int).toNat) (c := co67) ((Kd.R_reads' (Kd.R_after (ok := (fun k_ => some k_ ≠ (v275 : Value).ownBlock)) (by (with_reducible repeat (first | apply Kd.R_alloc | apply Kd.R_drewN | apply Kd.R_drew)); exact Kd.R_mono HO_3.out (fun _ hk => ⟨hk.1.2, hk.2⟩)) hg hat)).2.2) KL70.out ((Kd.R_reads' (Kd.R_after (ok := (fun k_ => some k_ ≠ (v275 : Value).ownBlock)) (by (with_reducible repeat (first | apply Kd.R_alloc | apply Kd.R_drewN | apply Kd.R_drew)); exact Kd.R_mono HO_3.out (fun _ hk => ⟨hk.1.2, hk.2⟩)) hg hat)).2.1)))
                     have _ := ra (ho)
                     clear HO_3 BK209 HO276 HB HR270 HR283 HO266
                     rename_i HO_3 BK209 HO276 HB HR270 HR283 HO273
                     clear ho hb hg hat
                     refine hK.out _ _ trivial (fun hHeld => ?_)
                     clear hK K
                     refine nm 67 ?_
                     exact norm_ (by simp only [putAll, Act.put, List.setIfInBounds_toArray, List.set_cons_zero, List.set_cons_succ]) (hCont (v265, v272, v275) _ ⟨(by (with_reducible repeat (first | apply Kd.R_alloc | apply Kd.R_drewN | apply Kd.R_drew)); exact Kd.R_mono HO273.out (fun _ hk => ⟨hk.2, hk.1⟩)), (by (with_reducible repeat (first | apply Kd.R_alloc | apply Kd.R_drewN | apply Kd.R_drew)); exact Kd.R_mono HO276.out (fun _ hk => ⟨hk.2, hk.1⟩)), (by (with_reducible repeat (first | apply Kd.R_alloc | apply Kd.R_drewN | apply Kd.R_drew)); exact Kd.R_mono HO_3.out (fun _ hk => ⟨hk.2, hk.1⟩)), (by repeat (first | (with_reducible exact HR270.out) | (with_reducible refine Kd.C_alloc ?_ _) | (with_reducible refine Kd.C_drewN ?_ _) | (with_reducible refine Kd.C_drew ?_) | exact HR270.out)), (by repeat (first | (with_reducible exact HR283.out) | (with_reducible refine Kd.C_alloc ?_ _) | (with_reducible refine Kd.C_drewN ?_ _) | (with_reducible refine Kd.C_drew ?_) | exact HR283.out)), (bk BK209), bq⟩)
                   rintro ⟨v265, v272, v275⟩ w76 ⟨h0_, h1_, h2_, h3_, h4_, h5_, h6_⟩
                   have _ : Aside0 (Kd.R Kd.string 9 w76 w.heap.size (fun k_ => some k_ ≠ (v275 : Value).ownBlock ∧ some k_ ≠ (.slice Ao67 x3_2.length co67 : Value).ownBlock) v272 y271) := ⟨h0_⟩
                   have _ : Aside0 (Kd.R Kd.string 9 w76 w.heap.size (fun k_ => some k_ ≠ (v272 : Value).ownBlock ∧ some k_ ≠ (.slice Ao67 x3_2.length co67 : Value).ownBlock) v275 y274) := ⟨h1_⟩
                   have _ : Aside0 (Kd.R Kd.string 9 w76 w.heap.size (fun k_ => some k_ ≠ (v272 : Value).ownBlock ∧ some k_ ≠ (v275 : Value).ownBlock) (.slice Ao67 x3_2.length co67) x3_2) := ⟨h2_⟩
                   have _ : Aside0 (Kd.C Kd.string w76 Ao67 y267.length y267) := ⟨h3_⟩
                   have _ : Aside0 (Kd.C Kd.string w76 A70 y280.length y280) := ⟨h4_⟩
                   have _ : Aside0 (w76.heap[gb209]? = some (.cells #[.slice (some ad213) l0_0.length c0_0] 65 (0, 0))) := ⟨h5_⟩
                   have _ : Aside0 (Below w.heap.size w w76) := ⟨h6_⟩
                   clear HO_3 BK209 HB
                   clear h0_ h1_ h2_ h3_ h4_ h5_ h6_
                   rename_i HO273 HO276 HO_3 HR270 HR283 BK209 HB
                   have hHeld := trivial
                   obtain ⟨Ao78, co78, eo78⟩ := Kd.R_slice HO276.out
                   (first | subst eo78 | (injection eo78 with f1_ f2_ f3_; have f4_ := f1_.symm; have f5_ := f3_.symm; clear f1_ f2_ f3_; subst f4_; subst f5_))
                   refine norm_ (a' := ?_) ?_ ?_
                   rotate_left
                   ·simp only [putAll, Act.put, List.setIfInBounds_toArray, List.set_cons_zero, List.set_cons_succ]
                    rfl
                   refine oe 7 70 (bl 13 2047) (fun K hK => ?_)
                   refine Kd.R_append_rows_step Kd.string (w0 := w) w.heap.size (by rfl) (.tmp 67) (.tmp 69) 109 9 (.string ⟨#[]⟩) 16 rfl Try.underlying109 info9 rfl (by decide) (by omega) v272 y271 y274 _ _ _ (fun k_ => some k_ ≠ (.slice Ao67 x3_2.length co67 : Value).ownBlock ∧ some k_ ≠ (.slice Ao78 y274.length co78 : Value).ownBlock) (fun _ => False) rfl rfl ?aO ?aR (fun _ _ h => h) (fun _ h => h.elim) ?aF ?aB ?aS ?aL ?_
                   (case aR => exact sr HO276)
                   (case aB => exact bq)
                   (case aF => exact (fun k_ hk => ⟨Kd.fresh' (Kd.R_lt (rq HO_3)) k_ hk, Kd.fresh' (Kd.R_lt (rq HO276)) k_ hk⟩))
                   (case aO => exact (by (with_reducible repeat (first | apply Kd.R_alloc | apply Kd.R_drewN | apply Kd.R_drew)); exact Kd.R_mono HO273.out (fun _ hk => ⟨hk.2, hk.1⟩)))
                   (case aS => exact (below_size bq))
                   (case aL => have := LMc63.out; omega)
                   intro v278 w77 ho hb hg hat
                   rw [← Ny277.out] at ho
                   have _ := ra (Kd.R_after (ok := (fun k_ => some k_ ≠ (.slice Ao78 y274.length co78 : Value).ownBlock)) (by (with_reducible repeat (first | apply Kd.R_alloc | apply Kd.R_drewN | apply Kd.R_drew)); exact Kd.R_mono HO_3.out (fun _ hk => ⟨hk.2, hk.1⟩)) hg hat)
                   have _ := ra (blk_grown (g := gb209) (o := .cells #[.slice (some ad213) l0_0.length c0_0] 65 (0, 0)) (bk BK209) hg (Kd.R_ne HO273.out BK209.out (by decide)))
                   have _ := ra (Kd.R_after (ok := (fun k_ => some k_ ≠ (.slice Ao67 x3_2.length co67 : Value).ownBlock)) (by (with_reducible repeat (first | apply Kd.R_alloc | apply Kd.R_drewN | apply Kd.R_drew)); exact Kd.R_mono HO276.out (fun _ hk => ⟨hk.2, hk.1⟩)) hg hat)
                   have _ := ra (hb)
                   have _ := ra ((show Kd.C Kd.string w77 Ao67 y267.length y267 from by rw [Ny267.out]; exact Kd.C_take (m := (x7_3 : Int).toNat) ((Kd.R_reads' (Kd.R_after (ok := (fun k_ => some k_ ≠ (.slice Ao78 y274.length co78 : Value).ownBlock)) (by (with_reducible repeat (first | apply Kd.R_alloc | apply Kd.R_drewN | apply Kd.R_drew)); exact Kd.R_mono HO_3.out (fun _ hk => ⟨hk.2, hk.1⟩)) hg hat)).2.2) KL69.out))
                   have _ := ra ((show Kd.C Kd.string w77 A70 y280.length y280 from by rw [Ny280.out, KA70.out]; exact Kd.C_drop (m := (x7_3 : Int).toNat) (c := co67) ((Kd.R_reads' (Kd.R_after (ok := (fun k_ => some k_ ≠ (.slice Ao78 y274.length co78 : Value).ownBlock)) (by (with_reducible repeat (first | apply Kd.R_alloc | apply Kd.R_drewN | apply Kd.R_drew)); exact Kd.R_mono HO_3.out (fun _ hk => ⟨hk.2, hk.1⟩)) hg hat)).2.2) KL70.out ((Kd.R_reads' (Kd.R_after (ok := (fun k_ => some k_ ≠ (.slice Ao78 y274.length co78 : Value).ownBlock)) (by (with_reducible repeat (first | apply Kd.R_alloc | apply Kd.R_drewN | apply Kd.R_drew)); exact Kd.R_mono HO_3.out (fun _ hk => ⟨hk.2, hk.1⟩)) hg hat)).2.1)))
                   have _ := ra (ho)
                   clear HO_3 BK209 HO276 HB HR270 HR283 HO273
                   rename_i HO_3 BK209 HO276 HB HR270 HR283 HO279
                   clear ho hb hg hat
                   refine hK.out _ _ trivial (fun hHeld => ?_)
                   clear hK K
                   refine nm 70 ?_
                   refine oe 11 74 (bl 13 4095) (fun K hK => ?_)
                   refine Kd.R_append_rows_step Kd.string (w0 := w) w.heap.size (by rfl) (.tmp 70) (.tmp 73) 109 9 (.string ⟨#[]⟩) 16 rfl Try.underlying109 info9 rfl (by decide) (by omega) v278 y277 y280 _ _ _ (fun k_ => some k_ ≠ (.slice Ao67 x3_2.length co67 : Value).ownBlock ∧ some k_ ≠ (.slice Ao78 y274.length co78 : Value).ownBlock) (fun _ => False) rfl rfl ?aO ?aR (fun _ _ h => h) (fun _ h => h.elim) ?aF ?aB ?aS ?aL ?_
                   (case aR => repeat (first | exact (by repeat (first | (with_reducible exact HR283.out) | (with_reducible refine Kd.C_alloc ?_ _) | (with_reducible refine Kd.C_drewN ?_ _) | (with_reducible refine Kd.C_drew ?_) | exact HR283.out)) | (with_reducible refine Kd.C_alloc ?_ _) | (with_reducible refine Kd.C_drewN ?_ _) | (with_reducible refine Kd.C_drew ?_)))
                   (case aB => exact bq)
                   (case aF => exact (fun k_ hk => ⟨Kd.fresh' (Kd.R_lt (rq HO_3)) k_ hk, Kd.fresh' (Kd.R_lt (rq HO276)) k_ hk⟩))
                   (case aO => exact (rq HO279))
                   (case aS => exact (below_size bq))
                   (case aL => have := LMc66.out; omega)
                   intro v285 w79 ho hb hg hat
                   rw [← Ny284.out] at ho
                   have _ := ra (Kd.R_after (ok := (fun k_ => some k_ ≠ (.slice Ao78 y274.length co78 : Value).ownBlock)) (rq HO_3) hg hat)
                   have _ := ra (blk_grown (g := gb209) (o := .cells #[.slice (some ad213) l0_0.length c0_0] 65 (0, 0)) (bk BK209) hg (Kd.R_ne HO279.out BK209.out (by decide)))
                   have _ := ra (Kd.R_after (ok := (fun k_ => some k_ ≠ (.slice Ao67 x3_2.length co67 : Value).ownBlock)) (rq HO276) hg hat)
                   have _ := ra (hb)
                   have _ := ra ((show Kd.C Kd.string w79 Ao67 y267.length y267 from by rw [Ny267.out]; exact Kd.C_take (m := (x7_3 : Int).toNat) ((Kd.R_reads' (Kd.R_after (ok := (fun k_ => some k_ ≠ (.slice Ao78 y274.length co78 : Value).ownBlock)) (rq HO_3) hg hat)).2.2) KL69.out))
                   have _ := ra ((show Kd.C Kd.string w79 A70 y280.length y280 from by rw [Ny280.out, KA70.out]; exact Kd.C_drop (m := (x7_3 : Int).toNat) (c := co67) ((Kd.R_reads' (Kd.R_after (ok := (fun k_ => some k_ ≠ (.slice Ao78 y274.length co78 : Value).ownBlock)) (rq HO_3) hg hat)).2.2) KL70.out ((Kd.R_reads' (Kd.R_after (ok := (fun k_ => some k_ ≠ (.slice Ao78 y274.length co78 : Value).ownBlock)) (rq HO_3) hg hat)).2.1)))
                   have _ := ra (ho)
                   clear HO_3 BK209 HO276 HB HR270 HR283 HO279
                   rename_i HO_3 BK209 HO276 HB HR270 HR283 HO286
                   clear ho hb hg hat
                   refine hK.out _ _ trivial (fun hHeld => ?_)
                   clear hK K
                   refine nm 74 ?_
                   refine pu 12 3 (bl 13 8191) ?_
                   refine done_ (done_of HT_.out (by kernel_rfl)) ?_
                   try go_wp2
                   go_roundg k3
                   case measure => have := HK1.out; have := HK2.out; have := HK3.out; omega
                   case rel => exact ⟨(y284), (wrap64 (x5_2 + 1)), rs, H', ⟨by have := HK1.out; have := HK2.out; have := HK3.out; omega⟩, ⟨by (with_reducible repeat (first | apply Kd.R_alloc | apply Kd.R_drewN | apply Kd.R_drew)); exact Kd.R_mono HO286.out (fun _ hk => trivial)⟩, ⟨bk BK209⟩, ⟨bq⟩⟩
                  ·rw [if_neg c66] at H
                   exact absurd H (by simp)
                 ·rw [if_neg c63] at H
                  exact absurd H (by simp)
                ·rw [if_neg c62] at H
                 exact absurd H (by simp)
               ·rw [if_neg c61] at H
                exact absurd H (by simp)
              ·rw [if_neg c60] at H
               exact absurd H (by simp)
             ·rw [if_neg c59] at H
              have c59b0 : (x7_3 == (x3_2.length : Int)) = false := beq_eq_false_iff_ne.mpr c59
              have c59b1 : (x7_3 != (x3_2.length : Int)) = true := bne_iff_ne.mpr c59
              by_cases c80 : 0 ≤ x7_3
              ·rw [if_pos c80] at H
               exact absurd H (by simp)
              ·rw [if_neg c80] at H
               exact absurd H (by simp)
         ·rw [if_neg c10] at H
          exact absurd H (by simp)
        ·rw [if_neg c9] at H
         have c9b0 : decide (x5_2 < (((rd_T105 l0_0 x4_1).f2).length : Int)) = false := decide_eq_false c9
         clear c9
         have H' := Aside0.mk H
         clear H
         obtain ⟨hcz81_0, hfz81_0⟩ := zc1 BK209
         have p213 : 0 ≤ (x4_1 : Int) := od
         have q213 : x4_1 < (l0_0.length : Int) := od
         obtain ⟨ad213, A213_2, c213_2, e213, hx213_0, hx213_1, hx213_2, hl213_2, hi213_2⟩ := at_T105 HR0_0.out x4_1 p213 q213
         cases e213
         replace hx213_0 := hc HB hx213_0
         replace hx213_1 := hc HB hx213_1
         replace hx213_2 := hc HB hx213_2
         have HR213_2 := Aside0.mk hi213_2
         have HC213_2 := Aside0.mk hl213_2
         clear hi213_2 hl213_2
         replace p213 := eq_true p213
         replace q213 := eq_true q213
         go_wp2
         go_roundg k2
         case measure => have := HK1.out; have := HK2.out; omega
         case rel => exact ⟨(x3_2), (wrap64 (x4_1 + 1)), rs, H', ⟨by have := HK1.out; have := HK2.out; omega⟩, ⟨rq HO_3⟩, ⟨bk BK209⟩, ⟨bq⟩⟩
       ·rw [if_neg c8] at H
        exact absurd H (by simp)
      ·rw [if_neg c7] at H
       exact absurd H (by simp)
   ·rw [if_neg c5] at H
    have c5b0 : decide (x4_1 < (l0_0.length : Int)) = false := decide_eq_false c5
    clear c5
    obtain rfl := Option.some.inj H
    obtain ⟨hcz82_0, hfz82_0⟩ := zc1 BK209
    go_wp2
    go_ret
    exact ⟨_, re, rq HO_3, bq⟩
end Go.Proofs.Ytdbomnhdpniigaa.PA
