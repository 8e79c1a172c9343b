/- Contracts of the program's and the reference's functions (they began as prints of the kit's tool; shortened and joined). No condition beside what the Lean functions say. -/
import Derived.Test.YtgklmafdbgnohaaGreatFPAd4
import Derived.Test.YtgklmafdbgnohaaGreatFZCx5
import Derived.Test.YtgklmafdbgnohaaGreatFZCv8
import Derived.Test.YtgklmafdbgnohaaGreatFZCy6
section
namespace Go.Proofs.YtgklmafdbgnohaaGreat.PA
open Go.RowKit Go.Proofs.YtgklmafdbgnohaaGreatW.PrintWords Go.Proofs.YtgklmafdbgnohaaGreatW.PrintLast Go.Proofs.YtgklmafdbgnohaaGreatW.PrintMore Go.Proofs.YtgklmafdbgnohaaGreat.Z
attribute [local go_sem] max2_int min2_int max_two min_two max_three min_three max_four min_four
set_option linter.unusedVariables false
set_option maxHeartbeats 8000000
set_option maxRecDepth 100000
set_option linter.unusedSimpArgs false
theorem laws_szProbeBoxS.calls (A0 : Option Addr) (c0 : Nat) (l0 : List (S163)) (a1 r : Int) (w : World) (hr0 : Kd.C k163 w A0 l0.length l0) (hc0 : l0.length ≤ c0) (h : laws_szProbeBoxS.f l0 a1 = some r) :
  Calls Tryz.prog 83 #[.slice A0 l0.length c0, .int .i64 a1] w fun e w' => e = .returned (.int .i64 r) ∧ Drawn0 w w' := by
 have Z0 := ra hr0
 have Z1 := ra hc0
 clear hr0 hc0
 have H := h; unfold laws_szProbeBoxS.f at H
 clear h
 rcases td H with ⟨Z2, H⟩ | ⟨Z2, H⟩
 rotate_left
 rotate_left
 all_goals
  obtain rfl := Option.some.inj H
  go_enter Tryz.func83, Tryz.ntmps83
  go_wp2
  go_ret
  exact ⟨rs, d0⟩
theorem laws_szProbeTube.calls (a0_0 : ByteArray) (A0_1 : Option Addr) (c0_1 : Nat) (l0_1 : List (S163)) (a1 r : Int) (w : World) (hr0_1 : Kd.C k163 w A0_1 l0_1.length l0_1) (hc0_1 : l0_1.length ≤ c0_1) (h : laws_szProbeTube.f a0_0 l0_1 a1 = some r) :
  Calls Tryz.prog 58 #[.agg #[.string a0_0, .slice A0_1 l0_1.length c0_1], .int .i64 a1] w fun e w' => e = .returned (.int .i64 r) ∧ Below w.heap.size w w' := by
 have Z0 := Tryz.underlying55
 have Z1 := ra hr0_1
 have Z2 := ra hc0_1
 clear hr0_1 hc0_1
 have HB := ra (Below.refl w.heap.size w)
 have H := h; unfold laws_szProbeTube.f at H
 clear h
 rcases td H with ⟨Z3, H⟩ | ⟨Z3, H⟩
 ·obtain rfl := Option.some.inj H
  go_enter Tryz.func58, Tryz.ntmps58
  go_wp2_with (first | ((with_reducible refine gd 2 rfl ?_); refine bd 2 #[.string a0_0, .slice A0_1 l0_1.length c0_1] 55 ?_; intro Z4 Z5 HB Z6 Z7; obtain ⟨Z8, Z9, Z10, Z11⟩ := zc2 Z6))
  go_ret
  exact ⟨re, bq⟩
 obtain ⟨Z4, Z5, H⟩ := bo H
 rcases td H with ⟨Z6, H⟩ | ⟨Z6, H⟩
 rotate_left
 rotate_left
 all_goals
  obtain rfl := Option.some.inj H
  go_enter Tryz.func58, Tryz.ntmps58
  go_wp2_with (first | ((with_reducible refine gd 2 rfl ?_); refine bd 2 #[.string a0_0, .slice A0_1 l0_1.length c0_1] 55 ?_; intro Z7 Z8 HB Z9 Z10; obtain ⟨Z11, Z12, Z13, Z14⟩ := zc2 Z9) | ((with_reducible refine gc 83 rfl ?_); refine gy (some 15) Tryz.func83 (laws_szProbeBoxS.calls _ _ _ _ _ _ (sc Z1) Z2.out Z5.out) ?_; rintro w' ⟨nd, rfl⟩))
  go_ret
  exact ⟨re, bq⟩
theorem laws_toProbeBox.calls (a0_0 a0_1 a0_2 a0_3 a0_4 a0_5 r1 r2 r3 r4 r5 r6 : Int) (w : World) (h : laws_toProbeBox.f a0_0 a0_1 a0_2 a0_3 a0_4 a0_5 = some (r1, r2, r3, r4, r5, r6)) :
  Calls Tryz.prog 119 #[.agg #[.int .i64 a0_0, .int .i64 a0_1, .int .i64 a0_2, .int .i64 a0_3, .int .i64 a0_4, .int .i64 a0_5]] w fun e w' => e = .returned (.agg #[.int .i64 r1, .int .i64 r2, .int .i64 r3, .int .i64 r4, .int .i64 r5, .int .i64 r6]) ∧ Below w.heap.size w w' := by
 have Z0 := Tryz.underlying163
 have Z1 := Tryz.underlying75
 have HB := ra (Below.refl w.heap.size w)
 have H := h; unfold laws_toProbeBox.f at H
 clear h
 simp only [Option.some.injEq, Prod.mk.injEq] at H
 obtain ⟨rfl, rfl, rfl, rfl, rfl, rfl⟩ := H
 go_enter Tryz.func119, Tryz.ntmps119
 go_wp2_with (first | ((with_reducible refine gd 1 rfl ?_); refine bd 1 #[.int .i64 a0_0, .int .i64 a0_1, .int .i64 a0_2, .int .i64 a0_3, .int .i64 a0_4, .int .i64 a0_5] 163 ?_; intro Z2 Z3 HB Z4 Z5) | ((with_reducible refine gd 2 rfl ?_); refine bf 2 #[.int .i64 0, .int .i64 0, .int .i64 0, .int .i64 0, .int .i64 0, .int .i64 0] 75 ?_; intro Z6 Z7 hg hb HB Z8 Z9; have Z10 := bn hg (bk Z4); have Z11 := bm hg (bk Z4); replace Z4 := bb (bk Z4) hb; clear hg hb) | ((with_reducible refine gd 3 rfl ?_); refine bf 3 #[.int .i64 0, .int .i64 0, .int .i64 0, .int .i64 0, .int .i64 0, .int .i64 0] 75 ?_; intro Z12 Z13 hg hb HB Z14 Z15; have Z16 := bn hg (bk Z4); have Z17 := bm hg (bk Z4); have Z18 := bn hg (bk Z8); have Z19 := bm hg (bk Z8); replace Z4 := bb (bk Z4) hb; replace Z8 := bb (bk Z8) hb; have Z20 := Z10.out; have Z21 := Z11.out; have Z22 := Z16.out; have Z23 := Z17.out; obtain ⟨Z24, Z25, Z26, Z27, Z28, Z29, Z30, Z31, Z32, Z33, Z34, Z35⟩ := zc6 Z4; have Z36 := Z19.out; have Z37 := Z18.out; obtain ⟨Z38, Z39, Z40, Z41, Z42, Z43, Z44, Z45, Z46, Z47, Z48, Z49⟩ := zc6 Z14; obtain ⟨Z50, Z51, Z52, Z53, Z54, Z55, Z56, Z57, Z58, Z59, Z60, Z61⟩ := zc6 Z8; clear hg hb))
 refine bodyPost_ret (results_cell_row rfl _ _ Z6 75 #[.int .i64 a0_0, .int .i64 a0_1, .int .i64 a0_2, .int .i64 a0_3, .int .i64 a0_4, .int .i64 a0_5] (0, 0) _ rfl (bp Z8) Tryz.underlying75 rfl (by kernel_rfl)) rfl ?_
 exact ⟨re, bq⟩
theorem laws_toProbeBoxS.calls (k : Nat) (A0 : Option Addr) (c0 : Nat) (l0 : List (S163)) (r : List (S75)) (w : World) (hr0 : Kd.C k163 w A0 l0.length l0) (hc0 : l0.length ≤ c0) (h : laws_toProbeBoxS.f k l0 = some r) :
  Calls Tryz.prog 86 #[.slice A0 l0.length c0] w fun e w' => ∃ v0_ : Value, e = .returned (v0_) ∧ Kd.R k75 75 w' w.heap.size (fun _ => True) v0_ r ∧ Below w.heap.size w w' := by
 have Z0 := Tryz.underlying163
 have Z1 := Tryz.underlying75
 have Z2 := ra hr0
 have Z3 := ra hc0
 clear hr0 hc0
 have HB := ra (Below.refl w.heap.size w)
 have H := h; unfold laws_toProbeBoxS.f at H
 clear h
 by_cases Z4 : 0 ≤ (l0.length : Int)
 ·rw [if_pos Z4] at H
  have Z5 := eq_true Z4
  have Z6 : decide (0 ≤ (l0.length : Int)) = true := decide_eq_true Z4
  clear Z4
  by_cases Z7 : ((l0.length : Int) : Int).toNat ≤ 5864062014805
  ·rw [if_pos Z7] at H
   have Z8 := eq_true Z7
   have Z9 : decide (((l0.length : Int) : Int).toNat ≤ 5864062014805) = true := decide_eq_true Z7
   clear Z7
   obtain ⟨Z10, hy_⟩ : ∃ y_ : List (S75), y_ = (List.replicate ((l0.length : Int) : Int).toNat z75) := ⟨_, rfl⟩
   replace H : (laws_toProbeBoxS.l0 k l0 Z10 0) = some r := yh
   have Z11 := ra hy_
   clear hy_
   have H' := ra H; clear H
   go_enter Tryz.func86, Tryz.ntmps86
   go_wp2_with (first | ((with_reducible refine gd 7 rfl ?_); refine Kd.R_make k75 _ 75 rfl (N := 7) rfl 30 _ _ rfl (l0.length : Int) rfl rfl Tryz.underlying30 (.agg #[(.int .i64 0), (.int .i64 0), (.int .i64 0), (.int .i64 0), (.int .i64 0), (.int .i64 0)]) 48 info75 rfl (by decide) (by omega) z75 (ok := fun _ => True) (okp := fun _ => True) (k75_mkM _ _ _ z75 ) (fun _ hk => hk) trivial (od) (Nat.le_trans (Nat.mul_le_mul_right _ (od : (l0.length : Int).toNat ≤ 5864062014805)) (by omega)) (Below.refl _ _) (Nat.le_refl _) ?_; intro Z12 Z13 Z14 hb hg_ hnew_; clear hg_ hnew_; (first | rw [← Z11.out] at Z14 | (simp only [Int.reduceToNat] at Z14; rw [← Z11.out] at Z14)); have Z15 := ra (Kd.R_lower Z14 (below_size bq)); replace HB := bs hb; clear hb Z14))
   go_loopg [4] k (fun kq v4 w' => ∃ (x3_1 : List (S75)) (x4_1 : Int), v4 = .int .i64 x4_1 ∧ Aside0 (laws_toProbeBoxS.l0 kq l0 x3_1 x4_1 = some r) ∧ Aside0 (kq ≤ k) ∧ Aside0 (Kd.R k75 75 w' w.heap.size (fun _ => True) Z12 x3_1) ∧ Aside0 (Below w.heap.size w w'))
   case atStart => exact ⟨_, _, rs, H', ⟨Nat.le_refl _⟩, ⟨rq Z15⟩, ⟨bq⟩⟩
   case round =>
    clear H'
    try clear Z4
    try clear Z5
    try clear Z6
    try clear Z7
    try clear Z8
    try clear Z9
    obtain ⟨Z16, Z17, rfl, HA, Z18, Z19, HB⟩ := hrel
    cases gk with
    | zero => exact absurd HA.out (by simp [laws_toProbeBoxS.l0])
    | succ Z20 =>
     have H := HA.out
     clear HA
     simp only [laws_toProbeBoxS.l0] at H
     rcases td H with ⟨Z21, H⟩ | ⟨Z21, H⟩
     ·obtain ⟨Z22, H⟩ := tn H
      obtain ⟨⟨Z23, Z24, Z25, Z26, Z27, Z28⟩, Z29, H⟩ := bo H
      try dsimp only at H
      obtain ⟨Z30, H⟩ := tn H
      obtain ⟨Z31, hy_⟩ : ∃ y_ : List (S75), y_ = (Z16.set (Z17 : Int).toNat (⟨Z23, Z24, Z25, Z26, Z27, Z28⟩ : S75)) := ⟨_, rfl⟩
      replace H : (laws_toProbeBoxS.l0 Z20 l0 Z31 (wrap64 (Z17 + 1))) = some r := yh
      have Z32 := ra hy_
      clear hy_
      have H' := ra H; clear H
      have Z33 : 0 ≤ (Z17 : Int) := od
      have Z34 : Z17 < (l0.length : Int) := od
      obtain ⟨Z35, Z36, Z37, Z38, Z39, Z40, Z41, Z42⟩ := at_T163 Z2.out Z17 Z33 Z34
      cases Z36
      replace Z37 := hc HB Z37
      replace Z38 := hc HB Z38
      replace Z39 := hc HB Z39
      replace Z40 := hc HB Z40
      replace Z41 := hc HB Z41
      replace Z42 := hc HB Z42
      replace Z33 := eq_true Z33
      replace Z34 := eq_true Z34
      go_wp2_with (first | ((with_reducible refine gc 119 rfl ?_); refine gy (some 20) Tryz.func119 (laws_toProbeBox.calls _ _ _ _ _ _ _ _ _ _ _ _ _ Z29.out) ?_; rintro Z43 hb; replace Z19 := ra (Kd.R_below (rq Z19) hb); replace HB := bs hb; clear hb; have Z44 : 0 ≤ (Z17 : Int) := od; have Z45 : (Z17 : Int) < ((Z16.length : Int) : Int) := od; obtain ⟨Z46, Z47, Z48, Z49, Z50, Z51, Z52⟩ := Kd.R_form Z19.out (by omega); (first | cases Z48 | (injection Z48 with ea_ en_ ec_; (first | subst ea_ | (injection ea_ with ea_; subst ea_)); subst ec_; clear en_)); have Z53 := Aside0.mk Z49; have Z54 := Aside0.mk Z52; clear Z49 Z50 Z52; obtain ⟨Z55, Z56, Z57, Z58, Z59⟩ := Kd.R_elem Z19.out z75 (Z17 : Int) Z44 Z45; obtain rfl := k75_openM Z57; have Z60 : Z43.cell? ⟨Z46, (Z17 : Int).toNat * 6, none⟩ = some (.int .i64 ((rd_T75 Z16 Z17).f0)) := Z58 0 _ rfl; have Z61 : Z43.cell? ⟨Z46, (Z17 : Int).toNat * 6 + 1, none⟩ = some (.int .i64 ((rd_T75 Z16 Z17).f1)) := Z58 1 _ rfl; have Z62 : Z43.cell? ⟨Z46, (Z17 : Int).toNat * 6 + 2, none⟩ = some (.int .i64 ((rd_T75 Z16 Z17).f2)) := Z58 2 _ rfl; have Z63 : Z43.cell? ⟨Z46, (Z17 : Int).toNat * 6 + 3, none⟩ = some (.int .i64 ((rd_T75 Z16 Z17).f3)) := Z58 3 _ rfl; have Z64 : Z43.cell? ⟨Z46, (Z17 : Int).toNat * 6 + 4, none⟩ = some (.int .i64 ((rd_T75 Z16 Z17).f4)) := Z58 4 _ rfl; have Z65 : Z43.cell? ⟨Z46, (Z17 : Int).toNat * 6 + 5, none⟩ = some (.int .i64 ((rd_T75 Z16 Z17).f5)) := Z58 5 _ rfl; have Z66 : Z43.frozen? ⟨Z46, (Z17 : Int).toNat * 6, none⟩ = false := Z59 0; have Z67 : Z43.frozen? ⟨Z46, (Z17 : Int).toNat * 6 + 1, none⟩ = false := Z59 1; have Z68 : Z43.frozen? ⟨Z46, (Z17 : Int).toNat * 6 + 2, none⟩ = false := Z59 2; have Z69 : Z43.frozen? ⟨Z46, (Z17 : Int).toNat * 6 + 3, none⟩ = false := Z59 3; have Z70 : Z43.frozen? ⟨Z46, (Z17 : Int).toNat * 6 + 4, none⟩ = false := Z59 4; have Z71 : Z43.frozen? ⟨Z46, (Z17 : Int).toNat * 6 + 5, none⟩ = false := Z59 5; clear Z56 Z58 Z59 Z57; replace Z44 := eq_true Z44; replace Z45 := eq_true Z45; have Z72 := ra (show Kd.R k75 75 Z43 w.heap.size (fun _ => True) (.slice (some ⟨Z46, 0, none⟩) Z16.length Z47) Z16 from (rq Z19)); obtain ⟨Z73, Z74, Z75, Z76, Z77⟩ := Kd.R_elem Z72.out z75 (Z17 : Int) (od) (by have h_ : (Z17 : Int) < ((Z16.length : Int) : Int) := od; first | exact h_ | (have e_ := (Kd.R_reads' Z19.out).1; omega) | simpa using h_); obtain rfl := k75_openM Z75; have Z78 := Kd.R_seg Z72.out (Z17 : Int) (od) (by have h_ : (Z17 : Int) < ((Z16.length : Int) : Int) := od; first | exact h_ | (have e_ := (Kd.R_reads' Z19.out).1; omega) | simpa using h_) (seg := [.int .i64 Z23, .int .i64 Z24, .int .i64 Z25, .int .i64 Z26, .int .i64 Z27, .int .i64 Z28]) (j := 0) Z74 Z76 (show 6 ≤ 6 from by decide) (x' := (⟨Z23, Z24, Z25, Z26, Z27, Z28⟩ : S75)) (k75_mkM _ _ _ (⟨Z23, Z24, Z25, Z26, Z27, Z28⟩ : S75) ) (fun _ hk => hk); have Z79 := Z76 0 _ rfl; (try simp only [show (k75).sz = 6 from rfl, Nat.mul_one, Nat.add_zero] at Z79); have Z80 := Z77 0; (try simp only [show (k75).sz = 6 from rfl, Nat.mul_one, Nat.add_zero] at Z80); have Z81 := Z76 1 _ rfl; (try simp only [show (k75).sz = 6 from rfl, Nat.mul_one, Nat.add_zero] at Z81); have Z82 := Z77 1; (try simp only [show (k75).sz = 6 from rfl, Nat.mul_one, Nat.add_zero] at Z82); have Z83 := Z76 2 _ rfl; (try simp only [show (k75).sz = 6 from rfl, Nat.mul_one, Nat.add_zero] at Z83); have Z84 := Z77 2; (try simp only [show (k75).sz = 6 from rfl, Nat.mul_one, Nat.add_zero] at Z84); have Z85 := Z76 3 _ rfl; (try simp only [show (k75).sz = 6 from rfl, Nat.mul_one, Nat.add_zero] at Z85); have Z86 := Z77 3; (try simp only [show (k75).sz = 6 from rfl, Nat.mul_one, Nat.add_zero] at Z86); have Z87 := Z76 4 _ rfl; (try simp only [show (k75).sz = 6 from rfl, Nat.mul_one, Nat.add_zero] at Z87); have Z88 := Z77 4; (try simp only [show (k75).sz = 6 from rfl, Nat.mul_one, Nat.add_zero] at Z88); have Z89 := Z76 5 _ rfl; (try simp only [show (k75).sz = 6 from rfl, Nat.mul_one, Nat.add_zero] at Z89); have Z90 := Z77 5; (try simp only [show (k75).sz = 6 from rfl, Nat.mul_one, Nat.add_zero] at Z90); clear Z74 Z76 Z77 Z75) | ((with_reducible refine gate_store (t := 75) (p := 21) rfl ?_); refine store_event (t := 75) (p := 21) (v := ?vo_w13) (w1 := ((((((Z43.setCell ⟨Z46, (Z17 : Int).toNat * 6, none⟩ (.int .i64 Z23)).setCell ⟨Z46, (Z17 : Int).toNat * 6 + 1, none⟩ (.int .i64 Z24)).setCell ⟨Z46, (Z17 : Int).toNat * 6 + 2, none⟩ (.int .i64 Z25)).setCell ⟨Z46, (Z17 : Int).toNat * 6 + 3, none⟩ (.int .i64 Z26)).setCell ⟨Z46, (Z17 : Int).toNat * 6 + 4, none⟩ (.int .i64 Z27)).setCell ⟨Z46, (Z17 : Int).toNat * 6 + 5, none⟩ (.int .i64 Z28))) ?hg ?ho ?hn ?hr ?_; (case ho => rfl); (case hg => rfl); (case hn => rfl); (case hr => first | (go_simp; done) | (go_simp; rfl)); intro Z91 hw; have hg : Z43.grownBy Z91 (some Z46) := (by rw [hw]; exact Z78.2); have hp_ : Kd.R k75 75 Z91 w.heap.size (fun _ => True) (.slice (some ⟨Z46, 0, none⟩) Z16.length Z47) Z31 := (by rw [hw, Z32.out]; exact Z78.1); clear Z78; replace Z19 := ra (hp_); replace HB := ra ((by rw [hw]; exact below_set (below_set (below_set (below_set (below_set (below_set (HB.out) Z53.out) Z53.out) Z53.out) Z53.out) Z53.out) Z53.out : Below w.heap.size w Z91)); clear hg hw hp_))
      go_roundg Z20
      case measure => have := Z18.out; omega
      case rel => exact ⟨_, _, rs, H', ⟨by have := Z18.out; omega⟩, ⟨rq Z19⟩, ⟨bq⟩⟩
     ·obtain rfl := Option.some.inj H
      go_wp2
      go_ret
      exact ⟨_, re, rq Z19, bq⟩
  ·rw [if_neg Z7] at H
   exact absurd H (by simp)
 ·rw [if_neg Z4] at H
  exact absurd H (by simp)
theorem laws_toProbeTube.calls (k : Nat) (a0_0 : ByteArray) (A0_1 : Option Addr) (c0_1 : Nat) (l0_1 : List (S163)) (r1 : ByteArray) (r2 : List (S75)) (w : World) (hr0_1 : Kd.C k163 w A0_1 l0_1.length l0_1) (hc0_1 : l0_1.length ≤ c0_1) (h : laws_toProbeTube.f k a0_0 l0_1 = some (r1, r2)) :
  Calls Tryz.prog 61 #[.agg #[.string a0_0, .slice A0_1 l0_1.length c0_1]] w fun e w' => ∃ v1_ : Value, e = .returned (.agg #[.string r1, v1_]) ∧ Kd.R k75 75 w' w.heap.size (fun _ => True) v1_ r2 ∧ Below w.heap.size w w' := by
 have Z0 := Tryz.underlying55
 have Z1 := Tryz.underlying32
 have Z2 := ra hr0_1
 have Z3 := ra hc0_1
 clear hr0_1 hc0_1
 have HB := ra (Below.refl w.heap.size w)
 have H := h; unfold laws_toProbeTube.f at H
 clear h
 obtain ⟨Z4, Z5, H⟩ := bo H
 simp only [Option.some.injEq, Prod.mk.injEq] at H
 obtain ⟨rfl, rfl⟩ := H
 go_enter Tryz.func61, Tryz.ntmps61
 go_wp2_with (first | ((with_reducible refine gd 1 rfl ?_); refine bd 1 #[.string a0_0, .slice A0_1 l0_1.length c0_1] 55 ?_; intro Z6 Z7 HB Z8 Z9) | ((with_reducible refine gd 2 rfl ?_); refine bf 2 #[.string (⟨#[]⟩ : ByteArray), .slice none 0 0] 32 ?_; intro Z10 Z11 hg hb HB Z12 Z13; have Z14 := bn hg (bk Z8); have Z15 := bm hg (bk Z8); replace Z8 := bb (bk Z8) hb; clear hg hb) | ((with_reducible refine gd 3 rfl ?_); refine bf 3 #[.string (⟨#[]⟩ : ByteArray), .slice none 0 0] 32 ?_; intro Z16 Z17 hg hb HB Z18 Z19; have Z20 := bn hg (bk Z8); have Z21 := bm hg (bk Z8); have Z22 := bn hg (bk Z12); have Z23 := bm hg (bk Z12); replace Z8 := bb (bk Z8) hb; replace Z12 := bb (bk Z12) hb; have Z24 := Z14.out; have Z25 := Z15.out; have Z26 := Z20.out; have Z27 := Z21.out; obtain ⟨Z28, Z29, Z30, Z31⟩ := zc2 Z8; have Z32 := Z23.out; have Z33 := Z22.out; obtain ⟨Z34, Z35, Z36, Z37⟩ := zc2 Z18; clear hg hb) | ((with_reducible refine gc 86 rfl ?_); refine gx (some 9) Tryz.func86 (laws_toProbeBoxS.calls _ _ _ _ _ _ (Kd.C_below Z2.out bq) Z3.out Z5.out) ?_; rintro Z38 Z39 ⟨Z40, hb⟩; have Z41 := ra (Kd.R_lower Z40 (below_size bq)); replace Z8 := bb (bk Z8) hb; replace Z12 := bb (bk Z12) hb; replace Z18 := bb (o := .cells #[.string a0_0, .slice none 0 0] 32 (0, 0)) (bp Z18) hb; replace HB := bs hb; clear hb Z40; obtain ⟨Z42, Z43, Z44⟩ := Kd.R_slice Z41.out; subst Z44; obtain ⟨Z45, Z46, Z47, Z48⟩ := zc2 Z18; obtain ⟨Z49, Z50, Z51, Z52⟩ := zc2 Z12))
 refine bodyPost_ret (results_cell_row rfl _ _ Z10 32 #[.string a0_0, .slice Z42 Z4.length Z43] (0, 0) _ rfl (bp Z12) Tryz.underlying32 rfl (by kernel_rfl)) rfl ?_
 exact ⟨_, re, by (with_reducible repeat (first | apply Kd.R_alloc | apply Kd.R_drewN | apply Kd.R_drew)); exact Kd.R_mono (rf (Kd.R_types (Kd.R_types Z41.out Z18.out (by decide)) Z12.out (by decide))) (fun _ hk => trivial), bq⟩
theorem laws_eqProbeBox.calls (a0_0 a0_1 a0_2 a0_3 a0_4 a0_5 a1_0 a1_1 a1_2 a1_3 a1_4 a1_5 : Int) (r : Bool) (w : World) (h : laws_eqProbeBox.f a0_0 a0_1 a0_2 a0_3 a0_4 a0_5 a1_0 a1_1 a1_2 a1_3 a1_4 a1_5 = some r) :
  Calls Tryz.prog 121 #[.agg #[.int .i64 a0_0, .int .i64 a0_1, .int .i64 a0_2, .int .i64 a0_3, .int .i64 a0_4, .int .i64 a0_5], .agg #[.int .i64 a1_0, .int .i64 a1_1, .int .i64 a1_2, .int .i64 a1_3, .int .i64 a1_4, .int .i64 a1_5]] w fun e w' => e = .returned (.bool r) ∧ Below w.heap.size w w' := by
 have Z0 := Tryz.underlying75
 have HB := ra (Below.refl w.heap.size w)
 have H := h; unfold laws_eqProbeBox.f at H
 clear h
 rcases ed H with ⟨-, Z1, Z2, H⟩ | ⟨Z3, Z1, Z2, H⟩
 rcases ed H with ⟨-, Z4, Z5, H⟩ | ⟨Z6, Z4, Z5, H⟩
 rcases ed H with ⟨-, Z7, Z8, H⟩ | ⟨Z9, Z7, Z8, H⟩
 rcases ed H with ⟨-, Z10, Z11, H⟩ | ⟨Z12, Z10, Z11, H⟩
 rcases ed H with ⟨-, Z13, Z14, H⟩ | ⟨Z15, Z13, Z14, H⟩
 rcases ed H with ⟨-, Z16, Z17, H⟩ | ⟨Z18, Z16, Z17, H⟩
 rotate_left
 rotate_left
 rotate_left
 rotate_left
 rotate_left
 rotate_left
 rotate_left
 all_goals
  obtain rfl := Option.some.inj H
  go_enter Tryz.func121, Tryz.ntmps121
  go_wp2_with (first | ((with_reducible refine gd 2 rfl ?_); refine bd 2 #[.int .i64 a0_0, .int .i64 a0_1, .int .i64 a0_2, .int .i64 a0_3, .int .i64 a0_4, .int .i64 a0_5] 75 ?_; intro Z19 Z20 HB Z21 Z22) | ((with_reducible refine gd 3 rfl ?_); refine bf 3 #[.int .i64 a1_0, .int .i64 a1_1, .int .i64 a1_2, .int .i64 a1_3, .int .i64 a1_4, .int .i64 a1_5] 75 ?_; intro Z23 Z24 hg hb HB Z25 Z26; have Z27 := bn hg (bk Z21); have Z28 := bm hg (bk Z21); replace Z21 := bb (bk Z21) hb; have Z29 := Z27.out; have Z30 := Z28.out; obtain ⟨Z31, Z32, Z33, Z34, Z35, Z36, Z37, Z38, Z39, Z40, Z41, Z42⟩ := zc6 Z21; obtain ⟨Z43, Z44, Z45, Z46, Z47, Z48, Z49, Z50, Z51, Z52, Z53, Z54⟩ := zc6 Z25; clear hg hb))
  go_ret
  exact ⟨re, bq⟩
def laws_eqProbeBoxS.T6 : Bool × List (List Nat × List Nat) := (true, [([], []), ([], []), ([0, 1], [0, 1]), ([2], [2]), ([], []), ([], []), ([4, 5], [4, 5]), ([6], [6]), ([3, 7], [3, 7]), ([8], [8])])
def laws_eqProbeBoxS.B6 : List Nat := [0, 0, 3, 7, 0, 0, 48, 112, 255, 511]
theorem laws_eqProbeBoxS.tab6 : rtab .any (opsOf Tryz.f88 6) = laws_eqProbeBoxS.T6 := by kernel_rfl
theorem laws_eqProbeBoxS.bits6 : waitsOk laws_eqProbeBoxS.T6.2 laws_eqProbeBoxS.B6 = true := by kernel_rfl
theorem laws_eqProbeBoxS.calls (k : Nat) (A0 : Option Addr) (c0 : Nat) (l0 : List (S75)) (A1 : Option Addr) (c1 : Nat) (l1 : List (S75)) (r : Bool) (w : World) (hr0 : Kd.C k75 w A0 l0.length l0) (hc0 : l0.length ≤ c0) (hr1 : Kd.C k75 w A1 l1.length l1) (hc1 : l1.length ≤ c1) (h : laws_eqProbeBoxS.f k l0 l1 = some r) :
  Calls Tryz.prog 88 #[.slice A0 l0.length c0, .slice A1 l1.length c1] w fun e w' => e = .returned (.bool r) ∧ Below w.heap.size w w' := by
 have Z0 := Tryz.underlying75
 have Z1 := ra hr0
 have Z2 := ra hc0
 clear hr0 hc0
 have Z3 := ra hr1
 have Z4 := ra hc1
 clear hr1 hc1
 have HB := ra (Below.refl w.heap.size w)
 have H := h; unfold laws_eqProbeBoxS.f at H
 clear h
 rcases ed H with ⟨Z5, Z6, Z7, H⟩ | ⟨Z5, Z6, Z7, H⟩
 ·have Z8 : (l0.length == l1.length) = true := by first | simpa using Z5 | (simp at Z5 ⊢; omega)
  clear Z5
  have H' := ra H; clear H
  go_enter Tryz.func88, Tryz.ntmps88
  go_wp2
  go_loopg [5] k (fun kq v5 w' => ∃ (x5_1 : Int), v5 = .int .i64 x5_1 ∧ Aside0 (laws_eqProbeBoxS.l0 kq l0 l1 x5_1 = some r) ∧ Aside0 (kq ≤ k) ∧ Aside0 (Below w.heap.size w w'))
  case atStart => exact ⟨_, rs, H', ⟨Nat.le_refl _⟩, ⟨bq⟩⟩
  case round =>
   clear H'
   try clear c1
   try clear Z5
   try clear Z6
   try clear Z7
   try clear Z8
   obtain ⟨Z9, rfl, HA, Z10, HB⟩ := hrel
   cases gk with
   | zero => exact absurd HA.out (by simp [laws_eqProbeBoxS.l0])
   | succ Z11 =>
    have H := HA.out
    clear HA
    simp only [laws_eqProbeBoxS.l0] at H
    rcases td H with ⟨Z12, H⟩ | ⟨Z12, H⟩
    ·obtain ⟨Z13, H⟩ := tn H
     obtain ⟨Z14, H⟩ := tn H
     obtain ⟨Z15, Z16, H⟩ := bo H
     rcases ud H with ⟨rfl, Z17⟩ | ⟨rfl, Z17⟩ <;> have H := Z17
     ·have H' := ra H; clear H
      try go_wp2
      have _ := ra (below_drew1 HB.out)
      clear HB
      rename_i HB
      have Z18 : 0 ≤ (Z9 : Int) := od
      have Z19 : Z9 < (l0.length : Int) := od
      obtain ⟨Z20, Z21, Z22, Z23, Z24, Z25, Z26, Z27⟩ := at_T75 Z1.out Z9 Z18 Z19
      have Z28 := Z27
      have Z29 := Z26
      have Z30 := Z25
      have Z31 := Z24
      have Z32 := Z23
      have Z33 := Z22
      cases Z21
      replace Z22 := hc HB Z22
      replace Z23 := hc HB Z23
      replace Z24 := hc HB Z24
      replace Z25 := hc HB Z25
      replace Z26 := hc HB Z26
      replace Z27 := hc HB Z27
      replace Z18 := eq_true Z18
      replace Z19 := eq_true Z19
      have Z34 : 0 ≤ (Z9 : Int) := od
      have Z35 : Z9 < (l1.length : Int) := od
      obtain ⟨Z36, Z37, Z38, Z39, Z40, Z41, Z42, Z43⟩ := at_T75 Z3.out Z9 Z34 Z35
      have Z44 := Z43
      have Z45 := Z42
      have Z46 := Z41
      have Z47 := Z40
      have Z48 := Z39
      have Z49 := Z38
      cases Z37
      replace Z38 := hc HB Z38
      replace Z39 := hc HB Z39
      replace Z40 := hc HB Z40
      replace Z41 := hc HB Z41
      replace Z42 := hc HB Z42
      replace Z43 := hc HB Z43
      replace Z34 := eq_true Z34
      replace Z35 := eq_true Z35
      refine start_ (n := 10) (S := fun w' => w'.cell? (Z20.add ((Z9).toNat * 6)) = some (.int .i64 ((rd_T75 l0 Z9).f0)) ∧ w'.cell? ⟨(Z20.add ((Z9).toNat * 6)).block, (Z20.add ((Z9).toNat * 6)).off + 1, none⟩ = some (.int .i64 ((rd_T75 l0 Z9).f1)) ∧ w'.cell? ⟨(Z20.add ((Z9).toNat * 6)).block, (Z20.add ((Z9).toNat * 6)).off + 2, none⟩ = some (.int .i64 ((rd_T75 l0 Z9).f2)) ∧ w'.cell? ⟨(Z20.add ((Z9).toNat * 6)).block, (Z20.add ((Z9).toNat * 6)).off + 3, none⟩ = some (.int .i64 ((rd_T75 l0 Z9).f3)) ∧ w'.cell? ⟨(Z20.add ((Z9).toNat * 6)).block, (Z20.add ((Z9).toNat * 6)).off + 4, none⟩ = some (.int .i64 ((rd_T75 l0 Z9).f4)) ∧ w'.cell? ⟨(Z20.add ((Z9).toNat * 6)).block, (Z20.add ((Z9).toNat * 6)).off + 5, none⟩ = some (.int .i64 ((rd_T75 l0 Z9).f5)) ∧ w'.cell? (Z36.add ((Z9).toNat * 6)) = some (.int .i64 ((rd_T75 l1 Z9).f0)) ∧ w'.cell? ⟨(Z36.add ((Z9).toNat * 6)).block, (Z36.add ((Z9).toNat * 6)).off + 1, none⟩ = some (.int .i64 ((rd_T75 l1 Z9).f1)) ∧ w'.cell? ⟨(Z36.add ((Z9).toNat * 6)).block, (Z36.add ((Z9).toNat * 6)).off + 2, none⟩ = some (.int .i64 ((rd_T75 l1 Z9).f2)) ∧ w'.cell? ⟨(Z36.add ((Z9).toNat * 6)).block, (Z36.add ((Z9).toNat * 6)).off + 3, none⟩ = some (.int .i64 ((rd_T75 l1 Z9).f3)) ∧ w'.cell? ⟨(Z36.add ((Z9).toNat * 6)).block, (Z36.add ((Z9).toNat * 6)).off + 4, none⟩ = some (.int .i64 ((rd_T75 l1 Z9).f4)) ∧ w'.cell? ⟨(Z36.add ((Z9).toNat * 6)).block, (Z36.add ((Z9).toNat * 6)).off + 5, none⟩ = some (.int .i64 ((rd_T75 l1 Z9).f5))) (ds := []) (bl 10 0) (by kernel_rfl) rfl rfl ⟨(hc HB Z33), (hc HB Z32), (hc HB Z31), (hc HB Z30), (hc HB Z29), (hc HB Z28), (hc HB Z49), (hc HB Z48), (hc HB Z47), (hc HB Z46), (hc HB Z45), (hc HB Z44)⟩ (fun hHeld => ?_); refine with_tabW laws_eqProbeBoxS.tab6 laws_eqProbeBoxS.bits6 (fun HT_ HW_ => ?_)
      generalize wr.drew = Z50 at HB Z22 Z23 Z24 Z25 Z26 Z27 Z38 Z39 Z40 Z41 Z42 Z43 hHeld ⊢
      refine pu 0 17 (bl 10 1) ?_
      refine pu 1 18 (bl 10 3) ?_
      refine pu 2 19 (bl 10 7) ?_
      refine pu 4 21 (bl 10 23) ?_
      refine pu 5 22 (bl 10 55) ?_
      refine pu 6 23 (bl 10 119) ?_
      refine tk 3 20 (bl 10 127) ?_ hHeld
      refine tk 7 24 (bl 10 255) ?_ hHeld
      refine oe 8 25 (bl 10 511) (fun K hK => ?_)
      refine gs Tryz.func121 #[.agg #[.int .i64 ((rd_T75 l0 Z9).f0), .int .i64 ((rd_T75 l0 Z9).f1), .int .i64 ((rd_T75 l0 Z9).f2), .int .i64 ((rd_T75 l0 Z9).f3), .int .i64 ((rd_T75 l0 Z9).f4), .int .i64 ((rd_T75 l0 Z9).f5)], .agg #[.int .i64 ((rd_T75 l1 Z9).f0), .int .i64 ((rd_T75 l1 Z9).f1), .int .i64 ((rd_T75 l1 Z9).f2), .int .i64 ((rd_T75 l1 Z9).f3), .int .i64 ((rd_T75 l1 Z9).f4), .int .i64 ((rd_T75 l1 Z9).f5)]] ?_
      with_reducible refine (laws_eqProbeBox.calls ((rd_T75 l0 Z9).f0) ((rd_T75 l0 Z9).f1) ((rd_T75 l0 Z9).f2) ((rd_T75 l0 Z9).f3) ((rd_T75 l0 Z9).f4) ((rd_T75 l0 Z9).f5) ((rd_T75 l1 Z9).f0) ((rd_T75 l1 Z9).f1) ((rd_T75 l1 Z9).f2) ((rd_T75 l1 Z9).f3) ((rd_T75 l1 Z9).f4) ((rd_T75 l1 Z9).f5) true _ Z16.out).mono ?_
      rintro e Z51 ⟨rfl, hb⟩
      refine ⟨_, rfl, ?_⟩
      have _ := bs hb
      clear HB
      rename_i HB
      (try clear hb)
      refine hK.out _ _ ⟨(hc HB Z33), (hc HB Z32), (hc HB Z31), (hc HB Z30), (hc HB Z29), (hc HB Z28), (hc HB Z49), (hc HB Z48), (hc HB Z47), (hc HB Z46), (hc HB Z45), (hc HB Z44)⟩ (fun hHeld => ?_)
      clear hK K
      refine nm 25 ?_
      refine pu 9 26 (bl 10 1023) ?_
      refine done_ (done_of HT_.out (by kernel_rfl)) ?_
      try go_wp2
      go_roundg Z11
      case measure => have := Z10.out; omega
      case rel => exact ⟨_, rs, H', ⟨by have := Z10.out; omega⟩, ⟨bq⟩⟩
     ·obtain rfl := Option.some.inj H
      try go_wp2
      have _ := ra (below_drew1 HB.out)
      clear HB
      rename_i HB
      have Z18 : 0 ≤ (Z9 : Int) := od
      have Z19 : Z9 < (l0.length : Int) := od
      obtain ⟨Z20, Z21, Z22, Z23, Z24, Z25, Z26, Z27⟩ := at_T75 Z1.out Z9 Z18 Z19
      have Z28 := Z27
      have Z29 := Z26
      have Z30 := Z25
      have Z31 := Z24
      have Z32 := Z23
      have Z33 := Z22
      cases Z21
      replace Z22 := hc HB Z22
      replace Z23 := hc HB Z23
      replace Z24 := hc HB Z24
      replace Z25 := hc HB Z25
      replace Z26 := hc HB Z26
      replace Z27 := hc HB Z27
      replace Z18 := eq_true Z18
      replace Z19 := eq_true Z19
      have Z34 : 0 ≤ (Z9 : Int) := od
      have Z35 : Z9 < (l1.length : Int) := od
      obtain ⟨Z36, Z37, Z38, Z39, Z40, Z41, Z42, Z43⟩ := at_T75 Z3.out Z9 Z34 Z35
      have Z44 := Z43
      have Z45 := Z42
      have Z46 := Z41
      have Z47 := Z40
      have Z48 := Z39
      have Z49 := Z38
      cases Z37
      replace Z38 := hc HB Z38
      replace Z39 := hc HB Z39
      replace Z40 := hc HB Z40
      replace Z41 := hc HB Z41
      replace Z42 := hc HB Z42
      replace Z43 := hc HB Z43
      replace Z34 := eq_true Z34
      replace Z35 := eq_true Z35
      refine start_ (n := 10) (S := fun w' => w'.cell? (Z20.add ((Z9).toNat * 6)) = some (.int .i64 ((rd_T75 l0 Z9).f0)) ∧ w'.cell? ⟨(Z20.add ((Z9).toNat * 6)).block, (Z20.add ((Z9).toNat * 6)).off + 1, none⟩ = some (.int .i64 ((rd_T75 l0 Z9).f1)) ∧ w'.cell? ⟨(Z20.add ((Z9).toNat * 6)).block, (Z20.add ((Z9).toNat * 6)).off + 2, none⟩ = some (.int .i64 ((rd_T75 l0 Z9).f2)) ∧ w'.cell? ⟨(Z20.add ((Z9).toNat * 6)).block, (Z20.add ((Z9).toNat * 6)).off + 3, none⟩ = some (.int .i64 ((rd_T75 l0 Z9).f3)) ∧ w'.cell? ⟨(Z20.add ((Z9).toNat * 6)).block, (Z20.add ((Z9).toNat * 6)).off + 4, none⟩ = some (.int .i64 ((rd_T75 l0 Z9).f4)) ∧ w'.cell? ⟨(Z20.add ((Z9).toNat * 6)).block, (Z20.add ((Z9).toNat * 6)).off + 5, none⟩ = some (.int .i64 ((rd_T75 l0 Z9).f5)) ∧ w'.cell? (Z36.add ((Z9).toNat * 6)) = some (.int .i64 ((rd_T75 l1 Z9).f0)) ∧ w'.cell? ⟨(Z36.add ((Z9).toNat * 6)).block, (Z36.add ((Z9).toNat * 6)).off + 1, none⟩ = some (.int .i64 ((rd_T75 l1 Z9).f1)) ∧ w'.cell? ⟨(Z36.add ((Z9).toNat * 6)).block, (Z36.add ((Z9).toNat * 6)).off + 2, none⟩ = some (.int .i64 ((rd_T75 l1 Z9).f2)) ∧ w'.cell? ⟨(Z36.add ((Z9).toNat * 6)).block, (Z36.add ((Z9).toNat * 6)).off + 3, none⟩ = some (.int .i64 ((rd_T75 l1 Z9).f3)) ∧ w'.cell? ⟨(Z36.add ((Z9).toNat * 6)).block, (Z36.add ((Z9).toNat * 6)).off + 4, none⟩ = some (.int .i64 ((rd_T75 l1 Z9).f4)) ∧ w'.cell? ⟨(Z36.add ((Z9).toNat * 6)).block, (Z36.add ((Z9).toNat * 6)).off + 5, none⟩ = some (.int .i64 ((rd_T75 l1 Z9).f5))) (ds := []) (bl 10 0) (by kernel_rfl) rfl rfl ⟨(hc HB Z33), (hc HB Z32), (hc HB Z31), (hc HB Z30), (hc HB Z29), (hc HB Z28), (hc HB Z49), (hc HB Z48), (hc HB Z47), (hc HB Z46), (hc HB Z45), (hc HB Z44)⟩ (fun hHeld => ?_); refine with_tabW laws_eqProbeBoxS.tab6 laws_eqProbeBoxS.bits6 (fun HT_ HW_ => ?_)
      generalize wr.drew = Z50 at HB Z22 Z23 Z24 Z25 Z26 Z27 Z38 Z39 Z40 Z41 Z42 Z43 hHeld ⊢
      refine pu 0 17 (bl 10 1) ?_
      refine pu 1 18 (bl 10 3) ?_
      refine pu 2 19 (bl 10 7) ?_
      refine pu 4 21 (bl 10 23) ?_
      refine pu 5 22 (bl 10 55) ?_
      refine pu 6 23 (bl 10 119) ?_
      refine tk 3 20 (bl 10 127) ?_ hHeld
      refine tk 7 24 (bl 10 255) ?_ hHeld
      refine oe 8 25 (bl 10 511) (fun K hK => ?_)
      refine gs Tryz.func121 #[.agg #[.int .i64 ((rd_T75 l0 Z9).f0), .int .i64 ((rd_T75 l0 Z9).f1), .int .i64 ((rd_T75 l0 Z9).f2), .int .i64 ((rd_T75 l0 Z9).f3), .int .i64 ((rd_T75 l0 Z9).f4), .int .i64 ((rd_T75 l0 Z9).f5)], .agg #[.int .i64 ((rd_T75 l1 Z9).f0), .int .i64 ((rd_T75 l1 Z9).f1), .int .i64 ((rd_T75 l1 Z9).f2), .int .i64 ((rd_T75 l1 Z9).f3), .int .i64 ((rd_T75 l1 Z9).f4), .int .i64 ((rd_T75 l1 Z9).f5)]] ?_
      with_reducible refine (laws_eqProbeBox.calls ((rd_T75 l0 Z9).f0) ((rd_T75 l0 Z9).f1) ((rd_T75 l0 Z9).f2) ((rd_T75 l0 Z9).f3) ((rd_T75 l0 Z9).f4) ((rd_T75 l0 Z9).f5) ((rd_T75 l1 Z9).f0) ((rd_T75 l1 Z9).f1) ((rd_T75 l1 Z9).f2) ((rd_T75 l1 Z9).f3) ((rd_T75 l1 Z9).f4) ((rd_T75 l1 Z9).f5) false _ Z16.out).mono ?_
      rintro e Z51 ⟨rfl, hb⟩
      refine ⟨_, rfl, ?_⟩
      have _ := bs hb
      clear HB
      rename_i HB
      (try clear hb)
      refine hK.out _ _ ⟨(hc HB Z33), (hc HB Z32), (hc HB Z31), (hc HB Z30), (hc HB Z29), (hc HB Z28), (hc HB Z49), (hc HB Z48), (hc HB Z47), (hc HB Z46), (hc HB Z45), (hc HB Z44)⟩ (fun hHeld => ?_)
      clear hK K
      refine nm 25 ?_
      refine pu 9 26 (bl 10 1023) ?_
      refine done_ (done_of HT_.out (by kernel_rfl)) ?_
      try go_wp2
      go_ret
      exact ⟨re, bq⟩
    ·obtain rfl := Option.some.inj H
     go_wp2
     go_ret
     exact ⟨re, bq⟩
 ·have Z8 : (l0.length == l1.length) = false := by first | simpa using Z5 | (simp at Z5 ⊢; omega)
  obtain rfl := Option.some.inj H
  go_enter Tryz.func88, Tryz.ntmps88
  go_wp2
  go_ret
  exact ⟨re, bq⟩
theorem laws_eqProbeTube.calls (k : Nat) (a0_0 : ByteArray) (A0_1 : Option Addr) (c0_1 : Nat) (l0_1 : List (S75)) (a1_0 : ByteArray) (A1_1 : Option Addr) (c1_1 : Nat) (l1_1 : List (S75)) (r : Bool) (w : World) (hr0_1 : Kd.C k75 w A0_1 l0_1.length l0_1) (hc0_1 : l0_1.length ≤ c0_1) (hr1_1 : Kd.C k75 w A1_1 l1_1.length l1_1) (hc1_1 : l1_1.length ≤ c1_1) (h : laws_eqProbeTube.f k a0_0 l0_1 a1_0 l1_1 = some r) :
  Calls Tryz.prog 63 #[.agg #[.string a0_0, .slice A0_1 l0_1.length c0_1], .agg #[.string a1_0, .slice A1_1 l1_1.length c1_1]] w fun e w' => e = .returned (.bool r) ∧ Below w.heap.size w w' := by
 have Z0 := Tryz.underlying32
 have Z1 := ra hr0_1
 have Z2 := ra hc0_1
 clear hr0_1 hc0_1
 have Z3 := ra hr1_1
 have Z4 := ra hc1_1
 clear hr1_1 hc1_1
 have HB := ra (Below.refl w.heap.size w)
 have H := h; unfold laws_eqProbeTube.f at H
 clear h
 rcases ed H with ⟨-, Z5, Z6, H⟩ | ⟨Z7, Z5, Z6, H⟩
 obtain ⟨Z8, Z9, H⟩ := bo H
 rcases ud H with ⟨rfl, Z10⟩ | ⟨rfl, Z10⟩ <;> have H := Z10
 rotate_left
 rotate_left
 ·obtain rfl := Option.some.inj H
  go_enter Tryz.func63, Tryz.ntmps63
  go_wp2_with (first | ((with_reducible refine gd 2 rfl ?_); refine bd 2 #[.string a0_0, .slice A0_1 l0_1.length c0_1] 32 ?_; intro Z8 Z9 HB Z10 Z11) | ((with_reducible refine gd 3 rfl ?_); refine bf 3 #[.string a1_0, .slice A1_1 l1_1.length c1_1] 32 ?_; intro Z12 Z13 hg hb HB Z14 Z15; have Z16 := bn hg (bk Z10); have Z17 := bm hg (bk Z10); replace Z10 := bb (bk Z10) hb; have Z18 := Z16.out; have Z19 := Z17.out; obtain ⟨Z20, Z21, Z22, Z23⟩ := zc2 Z10; obtain ⟨Z24, Z25, Z26, Z27⟩ := zc2 Z14; clear hg hb))
  go_ret
  exact ⟨re, bq⟩
 all_goals
  obtain rfl := Option.some.inj H
  go_enter Tryz.func63, Tryz.ntmps63
  go_wp2_with (first | ((with_reducible refine gd 2 rfl ?_); refine bd 2 #[.string a0_0, .slice A0_1 l0_1.length c0_1] 32 ?_; intro Z11 Z12 HB Z13 Z14) | ((with_reducible refine gd 3 rfl ?_); refine bf 3 #[.string a1_0, .slice A1_1 l1_1.length c1_1] 32 ?_; intro Z15 Z16 hg hb HB Z17 Z18; have Z19 := bn hg (bk Z13); have Z20 := bm hg (bk Z13); replace Z13 := bb (bk Z13) hb; have Z21 := Z19.out; have Z22 := Z20.out; obtain ⟨Z23, Z24, Z25, Z26⟩ := zc2 Z13; obtain ⟨Z27, Z28, Z29, Z30⟩ := zc2 Z17; clear hg hb) | ((with_reducible refine gc 88 rfl ?_); refine gy (some 14) Tryz.func88 (laws_eqProbeBoxS.calls _ _ _ _ _ _ _ _ _ (sc Z1) Z2.out (sc Z3) Z4.out Z9.out) ?_; rintro Z31 hb; replace Z13 := bb (bk Z13) hb; replace Z17 := bb (bk Z17) hb; replace HB := bs hb; clear hb))
  go_ret
  exact ⟨re, bq⟩
theorem laws_szProbeTubeS.calls (k : Nat) (A0 : Option Addr) (c0 : Nat) (l0 : List (S55)) (a1 r : Int) (w : World) (hr0 : Kd.C k55 w A0 l0.length l0) (hc0 : l0.length ≤ c0) (h : laws_szProbeTubeS.f k l0 a1 = some r) :
  Calls Tryz.prog 21 #[.slice A0 l0.length c0, .int .i64 a1] w fun e w' => e = .returned (.int .i64 r) ∧ Below w.heap.size w w' := by
 have Z0 := Tryz.underlying55
 have Z1 := ra hr0
 have Z2 := ra hc0
 clear hr0 hc0
 have HB := ra (Below.refl w.heap.size w)
 have H := h; unfold laws_szProbeTubeS.f at H
 clear h
 rcases td H with ⟨Z3, H⟩ | ⟨Z3, H⟩
 ·obtain rfl := Option.some.inj H
  go_enter Tryz.func21, Tryz.ntmps21
  go_wp2
  go_ret
  exact ⟨re, bq⟩
 ·have H' := ra H; clear H
  go_enter Tryz.func21, Tryz.ntmps21
  go_wp2
  go_loopg [1, 5] k (fun kq v1 v5 w' => ∃ (x1_1 : Int) (x5_1 : Int), v1 = .int .i64 x1_1 ∧ v5 = .int .i64 x5_1 ∧ Aside0 (laws_szProbeTubeS.l0 kq l0 x1_1 x5_1 = some r) ∧ Aside0 (kq ≤ k) ∧ Aside0 (Below w.heap.size w w'))
  case atStart => exact ⟨(wrap64 (a1 - (l0.length : Int))), (0), rs, rs, H', ⟨Nat.le_refl _⟩, ⟨bq⟩⟩
  case round =>
   clear H'
   try clear Z3
   obtain ⟨Z4, Z5, rfl, rfl, HA, Z6, HB⟩ := hrel
   cases gk with
   | zero => exact absurd HA.out (by simp [laws_szProbeTubeS.l0])
   | succ Z7 =>
    have H := HA.out
    clear HA
    simp only [laws_szProbeTubeS.l0] at H
    rcases td H with ⟨Z8, H⟩ | ⟨Z8, H⟩
    ·obtain ⟨Z9, H⟩ := tn H
     obtain ⟨Z10, Z11, H⟩ := bo H
     rcases td H with ⟨Z12, H⟩ | ⟨Z12, H⟩
     ·obtain rfl := Option.some.inj H
      have Z13 : 0 ≤ (Z5 : Int) := od
      have Z14 : Z5 < (l0.length : Int) := od
      obtain ⟨Z15, Z16, Z17, Z18, Z19, Z20, Z21, Z22⟩ := at_T55 Z1.out Z5 Z13 Z14
      cases Z18
      replace Z19 := hc HB Z19
      replace Z20 := hc HB Z20
      have Z23 := ra Z22
      have Z24 := ra Z21
      clear Z22 Z21
      replace Z13 := eq_true Z13
      replace Z14 := eq_true Z14
      go_wp2_with (first | ((with_reducible refine gc 58 rfl ?_); refine gy (some 23) Tryz.func58 (laws_szProbeTube.calls _ _ _ _ _ _ _ (sc Z23) Z24.out Z11.out) ?_; rintro Z25 hb; replace HB := bs hb; clear hb))
      go_ret
      exact ⟨re, bq⟩
     ·have H' := ra H; clear H
      have Z13 : 0 ≤ (Z5 : Int) := od
      have Z14 : Z5 < (l0.length : Int) := od
      obtain ⟨Z15, Z16, Z17, Z18, Z19, Z20, Z21, Z22⟩ := at_T55 Z1.out Z5 Z13 Z14
      cases Z18
      replace Z19 := hc HB Z19
      replace Z20 := hc HB Z20
      have Z23 := ra Z22
      have Z24 := ra Z21
      clear Z22 Z21
      replace Z13 := eq_true Z13
      replace Z14 := eq_true Z14
      go_wp2_with (first | ((with_reducible refine gc 58 rfl ?_); refine gy (some 23) Tryz.func58 (laws_szProbeTube.calls _ _ _ _ _ _ _ (sc Z23) Z24.out Z11.out) ?_; rintro Z25 hb; replace HB := bs hb; clear hb))
      go_roundg Z7
      case measure => have := Z6.out; omega
      case rel => exact ⟨(Z10), (wrap64 (Z5 + 1)), rs, rs, H', ⟨by have := Z6.out; omega⟩, ⟨bq⟩⟩
    ·obtain rfl := Option.some.inj H
     go_wp2
     go_ret
     exact ⟨re, bq⟩
theorem laws_toProbeTubeS.calls (k : Nat) (A0 : Option Addr) (c0 : Nat) (l0 : List (S55)) (r : List (S32)) (w : World) (hr0 : Kd.C k55 w A0 l0.length l0) (hc0 : l0.length ≤ c0) (h : laws_toProbeTubeS.f k l0 = some r) :
  Calls Tryz.prog 25 #[.slice A0 l0.length c0] w fun e w' => ∃ v0_ : Value, e = .returned (v0_) ∧ Kd.S k32 32 w' w.heap.size (fun _ => True) v0_ r ∧ Below w.heap.size w w' := by
 have Z0 := Tryz.underlying55
 have Z1 := Tryz.underlying32
 have Z2 := ra hr0
 have Z3 := ra hc0
 clear hr0 hc0
 have HB := ra (Below.refl w.heap.size w)
 have H := h; unfold laws_toProbeTubeS.f at H
 clear h
 by_cases Z4 : 0 ≤ (l0.length : Int)
 ·rw [if_pos Z4] at H
  have Z5 := eq_true Z4
  have Z6 : decide (0 ≤ (l0.length : Int)) = true := decide_eq_true Z4
  clear Z4
  by_cases Z7 : ((l0.length : Int) : Int).toNat ≤ 7036874417766
  ·rw [if_pos Z7] at H
   have Z8 := eq_true Z7
   have Z9 : decide (((l0.length : Int) : Int).toNat ≤ 7036874417766) = true := decide_eq_true Z7
   clear Z7
   obtain ⟨Z10, hy_⟩ : ∃ y_ : List (S32), y_ = (List.replicate ((l0.length : Int) : Int).toNat z32) := ⟨_, rfl⟩
   replace H : (laws_toProbeTubeS.l0 k l0 Z10 0) = some r := yh
   have Z11 := ra hy_
   clear hy_
   have H' := ra H; clear H
   go_enter Tryz.func25, Tryz.ntmps25
   go_wp2_with (first | ((with_reducible refine gd 7 rfl ?_); refine Kd.S_make k32 _ 32 rfl (N := 7) rfl 25 _ _ rfl (l0.length : Int) rfl rfl Tryz.underlying25 (.agg #[(.string ⟨#[]⟩), (.slice none 0 0)]) 40 info32 rfl (by decide) (by omega) z32 (ok := fun _ => True) (okp := fun _ => True) (k32_mkM _ _ _ z32 (Kd.R_nil _ _ _ _ _)) (fun _ hk => hk) trivial (od) (Nat.le_trans (Nat.mul_le_mul_right _ (od : (l0.length : Int).toNat ≤ 7036874417766)) (by omega)) (Below.refl _ _) (Nat.le_refl _) ?_; intro Z12 Z13 Z14 hb hg_ hnew_; clear hg_ hnew_; (first | rw [← Z11.out] at Z14 | (simp only [Int.reduceToNat] at Z14; rw [← Z11.out] at Z14)); have Z15 := ra (Kd.S_lower Z14 (below_size bq)); replace HB := bs hb; clear hb Z14))
   go_loopg [4] k (fun kq v4 w' => ∃ (x3_1 : List (S32)) (x4_1 : Int), v4 = .int .i64 x4_1 ∧ Aside0 (laws_toProbeTubeS.l0 kq l0 x3_1 x4_1 = some r) ∧ Aside0 (kq ≤ k) ∧ Aside0 (Kd.S k32 32 w' w.heap.size (fun _ => True) Z12 x3_1) ∧ Aside0 (Below w.heap.size w w'))
   case atStart => exact ⟨_, _, rs, H', ⟨Nat.le_refl _⟩, ⟨by (with_reducible repeat (first | apply Kd.S_alloc | apply Kd.S_drewN | apply Kd.S_drew)); exact Z15.out⟩, ⟨bq⟩⟩
   case round =>
    clear H'
    try clear Z4
    try clear Z5
    try clear Z6
    try clear Z7
    try clear Z8
    try clear Z9
    obtain ⟨Z16, Z17, rfl, HA, Z18, Z19, HB⟩ := hrel
    cases gk with
    | zero => exact absurd HA.out (by simp [laws_toProbeTubeS.l0])
    | succ Z20 =>
     have H := HA.out
     clear HA
     simp only [laws_toProbeTubeS.l0] at H
     rcases td H with ⟨Z21, H⟩ | ⟨Z21, H⟩
     ·obtain ⟨Z22, H⟩ := tn H
      obtain ⟨⟨Z23, Z24⟩, Z25, H⟩ := bo H
      try dsimp only at H
      obtain ⟨Z26, H⟩ := tn H
      obtain ⟨Z27, hy_⟩ : ∃ y_ : List (S32), y_ = (Z16.set (Z17 : Int).toNat (⟨Z23, Z24⟩ : S32)) := ⟨_, rfl⟩
      replace H : (laws_toProbeTubeS.l0 Z20 l0 Z27 (wrap64 (Z17 + 1))) = some r := yh
      have Z28 := ra hy_
      clear hy_
      have H' := ra H; clear H
      have Z29 : 0 ≤ (Z17 : Int) := od
      have Z30 : Z17 < (l0.length : Int) := od
      obtain ⟨Z31, Z32, Z33, Z34, Z35, Z36, Z37, Z38⟩ := at_T55 Z2.out Z17 Z29 Z30
      cases Z34
      replace Z35 := hc HB Z35
      replace Z36 := hc HB Z36
      have Z39 := ra Z38
      have Z40 := ra Z37
      clear Z38 Z37
      replace Z29 := eq_true Z29
      replace Z30 := eq_true Z30
      go_wp2_with (first | ((with_reducible refine gc 61 rfl ?_); refine gm (some 20) Tryz.func61 (laws_toProbeTube.calls _ _ _ _ _ _ _ _ (sc Z39) Z40.out Z25.out) ?_; rintro e Z41 ⟨Z42, rfl, Z43, hb⟩; obtain ⟨Z44, Z45, Z46⟩ := Kd.R_slice Z43; subst Z46; refine ⟨_, rfl, ?_⟩; have Z47 := ra (Kd.R_lower Z43 (below_size bq)); replace Z19 := ra (Kd.S_elder' (by (with_reducible repeat (first | apply Kd.S_alloc | apply Kd.S_drewN | apply Kd.S_drew)); exact Z19.out) (Kd.R_base Z43) hb); replace HB := bs hb; clear hb Z43; have Z48 : 0 ≤ (Z17 : Int) := od; have Z49 : (Z17 : Int) < ((Z16.length : Int) : Int) := od; obtain ⟨Z50, Z51, Z52, Z53, Z54, Z55, Z56⟩ := Kd.S_form Z19.out (by omega); (first | cases Z52 | (injection Z52 with ea_ en_ ec_; (first | subst ea_ | (injection ea_ with ea_; subst ea_)); subst ec_; clear en_)); have Z57 := Aside0.mk Z53; have Z58 := Aside0.mk Z56; clear Z53 Z54 Z56; obtain ⟨_, Z59, Z60, Z61, Z62, Z63, _, _⟩ := Kd.S_elem Z19.out z32 (Z17 : Int) Z48 Z49; obtain ⟨Z64, rfl, Z65⟩ := k32_openM Z61; have Z66 : Z41.cell? ⟨Z50, (Z17 : Int).toNat * 2, none⟩ = some (.string ((rd_T32 Z16 Z17).f0)) := Z62 0 _ rfl; have Z67 : Z41.cell? ⟨Z50, (Z17 : Int).toNat * 2 + 1, none⟩ = some (Z64) := Z62 1 _ rfl; have Z68 : Z41.frozen? ⟨Z50, (Z17 : Int).toNat * 2, none⟩ = false := Z63 0; have Z69 : Z41.frozen? ⟨Z50, (Z17 : Int).toNat * 2 + 1, none⟩ = false := Z63 1; clear Z60 Z62 Z63 Z61; replace Z48 := eq_true Z48; replace Z49 := eq_true Z49; have n_ := ra (Kd.S_mono (ok' := (fun k_ => some k_ ≠ ((.slice Z44 Z24.length Z45 : Value) : Value).ownBlock)) Z19.out (fun k_ hk => hk.2)); clear Z19; have Z19 := n_; clear n_; have Z70 := ra (show Kd.S k32 32 Z41 w.heap.size (fun k_ => ((fun _ => True)) k_ ∧ ¬ ((fun k_ => some k_ = ((.slice Z44 Z24.length Z45 : Value) : Value).ownBlock)) k_) (.slice (some ⟨Z50, 0, none⟩) Z16.length Z51) Z16 from (by (with_reducible repeat (first | apply Kd.S_alloc | apply Kd.S_drewN | apply Kd.S_drew)); exact Kd.S_mono Z19.out (fun k_ hk => ⟨trivial, fun e_ => hk e_⟩))); obtain ⟨Z71, Z72, Z73, Z74, Z75, Z76, Z77, Z78⟩ := Kd.S_elem Z70.out z32 (Z17 : Int) (od) (by have h_ : (Z17 : Int) < ((Z16.length : Int) : Int) := od; first | exact h_ | (have e_ := (Kd.S_reads' Z19.out).1; omega) | simpa using h_); obtain ⟨Z79, rfl, Z80⟩ := k32_openM Z74; have Z81 := Kd.S_seg Z78 (od) (by have h_ : (Z17 : Int) < ((Z16.length : Int) : Int) := od; first | exact h_ | (have e_ := (Kd.S_reads' Z19.out).1; omega) | simpa using h_) (seg := [.string Z23, (.slice Z44 Z24.length Z45 : Value)]) (j := 0) (show 2 ≤ 2 from by decide) (x' := (⟨Z23, Z24⟩ : S32)) (k32_mkM _ _ _ (⟨Z23, Z24⟩ : S32) (Kd.R_mono (Kd.R_tight rfl (Kd.R_mono (ok' := fun k_ => ((fun _ => True)) k_ ∧ k_ ≠ Z50) (Kd.R_apart' (Z47.out) (Kd.S_typed Z19.out) (by decide)) (fun k_ hk => ⟨trivial, fun e_ => (hk.2) (by rw [e_]; rfl)⟩))) (fun _ h_ => Or.inr (h_)))) (fun _ hk => hk) (fun k_ hk_ => ((Kd.R_mono (ok' := fun k_ => ((fun _ => True)) k_ ∧ k_ ≠ Z50) (Kd.R_apart' (Z47.out) (Kd.S_typed Z19.out) (by decide)) (fun k_ hk => ⟨trivial, fun e_ => (hk.2) (by rw [e_]; rfl)⟩))).1 k_ hk_.symm); have Z82 := Z75 0 _ rfl; (try simp only [show (k32).sz = 2 from rfl, Nat.mul_one, Nat.add_zero] at Z82); have Z83 := Z76 0; (try simp only [show (k32).sz = 2 from rfl, Nat.mul_one, Nat.add_zero] at Z83); have Z84 := Z75 1 _ rfl; (try simp only [show (k32).sz = 2 from rfl, Nat.mul_one, Nat.add_zero] at Z84); have Z85 := Z76 1; (try simp only [show (k32).sz = 2 from rfl, Nat.mul_one, Nat.add_zero] at Z85); clear Z73 Z75 Z76 Z74 Z77 Z78) | ((with_reducible refine gate_store (t := 32) (p := 21) rfl ?_); refine store_event (t := 32) (p := 21) (v := ?vo_w13) (w1 := ((Z41.setCell ⟨Z50, (Z17 : Int).toNat * 2, none⟩ (.string Z23)).setCell ⟨Z50, (Z17 : Int).toNat * 2 + 1, none⟩ ((.slice Z44 Z24.length Z45 : Value)))) ?hg ?ho ?hn ?hr ?_; (case ho => rfl); (case hg => rfl); (case hn => rfl); (case hr => first | (go_simp; done) | (go_simp; rfl)); intro Z86 hw; have hg : Z41.grownBy Z86 (some Z50) := (by rw [hw]; exact Z81.2); have hp_ : Kd.S k32 32 Z86 w.heap.size (fun _ => True) (.slice (some ⟨Z50, 0, none⟩) Z16.length Z51) Z27 := (by rw [hw, Z28.out]; exact Z81.1); clear Z81; have _ := ra (hp_); have _ := ra ((by rw [hw]; exact below_set (below_set (HB.out) Z57.out) Z57.out : Below w.heap.size w Z86)); clear Z19 HB Z47; rename_i Z19 HB; clear hg hw hp_))
      go_roundg Z20
      case measure => have := Z18.out; omega
      case rel => exact ⟨_, _, rs, H', ⟨by have := Z18.out; omega⟩, ⟨by (with_reducible repeat (first | apply Kd.S_alloc | apply Kd.S_drewN | apply Kd.S_drew)); exact Z19.out⟩, ⟨bq⟩⟩
     ·obtain rfl := Option.some.inj H
      go_wp2
      go_ret
      exact ⟨_, re, by (with_reducible repeat (first | apply Kd.S_alloc | apply Kd.S_drewN | apply Kd.S_drew)); exact Z19.out, bq⟩
  ·rw [if_neg Z7] at H
   exact absurd H (by simp)
 ·rw [if_neg Z4] at H
  exact absurd H (by simp)
def laws_eqProbeTubeS.T6 : Bool × List (List Nat × List Nat) := (true, [([], []), ([], []), ([0, 1], [0, 1]), ([2], [2]), ([], []), ([], []), ([4, 5], [4, 5]), ([6], [6]), ([3, 7], [3, 7]), ([8], [8])])
def laws_eqProbeTubeS.B6 : List Nat := [0, 0, 3, 7, 0, 0, 48, 112, 255, 511]
theorem laws_eqProbeTubeS.tab6 : rtab .any (opsOf Tryz.f28 6) = laws_eqProbeTubeS.T6 := by kernel_rfl
theorem laws_eqProbeTubeS.bits6 : waitsOk laws_eqProbeTubeS.T6.2 laws_eqProbeTubeS.B6 = true := by kernel_rfl
theorem laws_eqProbeTubeS.calls (k : Nat) (A0 : Option Addr) (c0 : Nat) (l0 : List (S32)) (A1 : Option Addr) (c1 : Nat) (l1 : List (S32)) (r : Bool) (w : World) (hr0 : Kd.C k32 w A0 l0.length l0) (hc0 : l0.length ≤ c0) (hr1 : Kd.C k32 w A1 l1.length l1) (hc1 : l1.length ≤ c1) (h : laws_eqProbeTubeS.f k l0 l1 = some r) :
  Calls Tryz.prog 28 #[.slice A0 l0.length c0, .slice A1 l1.length c1] w fun e w' => e = .returned (.bool r) ∧ Below w.heap.size w w' := by
 have Z0 := Tryz.underlying32
 have Z1 := ra hr0
 have Z2 := ra hc0
 clear hr0 hc0
 have Z3 := ra hr1
 have Z4 := ra hc1
 clear hr1 hc1
 have HB := ra (Below.refl w.heap.size w)
 have H := h; unfold laws_eqProbeTubeS.f at H
 clear h
 rcases ed H with ⟨Z5, Z6, Z7, H⟩ | ⟨Z5, Z6, Z7, H⟩
 ·have Z8 : (l0.length == l1.length) = true := by first | simpa using Z5 | (simp at Z5 ⊢; omega)
  clear Z5
  have H' := ra H; clear H
  go_enter Tryz.func28, Tryz.ntmps28
  go_wp2
  go_loopg [5] k (fun kq v5 w' => ∃ (x5_1 : Int), v5 = .int .i64 x5_1 ∧ Aside0 (laws_eqProbeTubeS.l0 kq l0 l1 x5_1 = some r) ∧ Aside0 (kq ≤ k) ∧ Aside0 (Below w.heap.size w w'))
  case atStart => exact ⟨_, rs, H', ⟨Nat.le_refl _⟩, ⟨bq⟩⟩
  case round =>
   clear H'
   try clear c1
   try clear Z5
   try clear Z6
   try clear Z7
   try clear Z8
   obtain ⟨Z9, rfl, HA, Z10, HB⟩ := hrel
   cases gk with
   | zero => exact absurd HA.out (by simp [laws_eqProbeTubeS.l0])
   | succ Z11 =>
    have H := HA.out
    clear HA
    simp only [laws_eqProbeTubeS.l0] at H
    rcases td H with ⟨Z12, H⟩ | ⟨Z12, H⟩
    ·obtain ⟨Z13, H⟩ := tn H
     obtain ⟨Z14, H⟩ := tn H
     obtain ⟨Z15, Z16, H⟩ := bo H
     rcases ud H with ⟨rfl, Z17⟩ | ⟨rfl, Z17⟩ <;> have H := Z17
     ·have H' := ra H; clear H
      try go_wp2
      have _ := ra (below_drew1 HB.out)
      clear HB
      rename_i HB
      have Z18 : 0 ≤ (Z9 : Int) := od
      have Z19 : Z9 < (l0.length : Int) := od
      obtain ⟨Z20, Z21, Z22, Z23, Z24, Z25, Z26, Z27⟩ := at_T32 Z1.out Z9 Z18 Z19
      have Z28 := Z25
      have Z29 := Z24
      cases Z23
      replace Z24 := hc HB Z24
      replace Z25 := hc HB Z25
      have Z30 := ra Z27
      have Z31 := ra Z26
      clear Z27 Z26
      replace Z18 := eq_true Z18
      replace Z19 := eq_true Z19
      have Z32 : 0 ≤ (Z9 : Int) := od
      have Z33 : Z9 < (l1.length : Int) := od
      obtain ⟨Z34, Z35, Z36, Z37, Z38, Z39, Z40, Z41⟩ := at_T32 Z3.out Z9 Z32 Z33
      have Z42 := Z39
      have Z43 := Z38
      cases Z37
      replace Z38 := hc HB Z38
      replace Z39 := hc HB Z39
      have Z44 := ra Z41
      have Z45 := ra Z40
      clear Z41 Z40
      replace Z32 := eq_true Z32
      replace Z33 := eq_true Z33
      refine start_ (n := 10) (S := fun w' => w'.cell? (Z20.add ((Z9).toNat * 2)) = some (.string ((rd_T32 l0 Z9).f0)) ∧ w'.cell? ⟨(Z20.add ((Z9).toNat * 2)).block, (Z20.add ((Z9).toNat * 2)).off + 1, none⟩ = some (.slice Z21 ((rd_T32 l0 Z9).f1).length Z22) ∧ w'.cell? (Z34.add ((Z9).toNat * 2)) = some (.string ((rd_T32 l1 Z9).f0)) ∧ w'.cell? ⟨(Z34.add ((Z9).toNat * 2)).block, (Z34.add ((Z9).toNat * 2)).off + 1, none⟩ = some (.slice Z35 ((rd_T32 l1 Z9).f1).length Z36)) (ds := []) (bl 10 0) (by kernel_rfl) rfl rfl ⟨(hc HB Z29), (hc HB Z28), (hc HB Z43), (hc HB Z42)⟩ (fun hHeld => ?_); refine with_tabW laws_eqProbeTubeS.tab6 laws_eqProbeTubeS.bits6 (fun HT_ HW_ => ?_)
      generalize wr.drew = Z46 at HB Z30 Z44 Z24 Z25 Z38 Z39 hHeld ⊢
      refine pu 0 17 (bl 10 1) ?_
      refine pu 1 18 (bl 10 3) ?_
      refine pu 2 19 (bl 10 7) ?_
      refine pu 4 21 (bl 10 23) ?_
      refine pu 5 22 (bl 10 55) ?_
      refine pu 6 23 (bl 10 119) ?_
      refine tk 3 20 (bl 10 127) ?_ hHeld
      refine tk 7 24 (bl 10 255) ?_ hHeld
      refine oe 8 25 (bl 10 511) (fun K hK => ?_)
      refine gs Tryz.func63 #[.agg #[.string ((rd_T32 l0 Z9).f0), .slice Z21 ((rd_T32 l0 Z9).f1).length Z22], .agg #[.string ((rd_T32 l1 Z9).f0), .slice Z35 ((rd_T32 l1 Z9).f1).length Z36]] ?_
      with_reducible refine (laws_eqProbeTube.calls Z11 ((rd_T32 l0 Z9).f0) _ _ ((rd_T32 l0 Z9).f1) ((rd_T32 l1 Z9).f0) _ _ ((rd_T32 l1 Z9).f1) true _ ?side1 ?side2 ?side3 ?side4 Z16.out).mono ?_
      (case side1 => exact sc Z30)
      (case side2 => exact Z31.out)
      (case side3 => exact sc Z44)
      (case side4 => exact Z45.out)
      rintro e Z47 ⟨rfl, hb⟩
      refine ⟨_, rfl, ?_⟩
      have _ := bs hb
      clear HB
      rename_i HB
      (try clear hb)
      refine hK.out _ _ ⟨(hc HB Z29), (hc HB Z28), (hc HB Z43), (hc HB Z42)⟩ (fun hHeld => ?_)
      clear hK K
      refine nm 25 ?_
      refine pu 9 26 (bl 10 1023) ?_
      refine done_ (done_of HT_.out (by kernel_rfl)) ?_
      try go_wp2
      go_roundg Z11
      case measure => have := Z10.out; omega
      case rel => exact ⟨_, rs, H', ⟨by have := Z10.out; omega⟩, ⟨bq⟩⟩
     ·obtain rfl := Option.some.inj H
      try go_wp2
      have _ := ra (below_drew1 HB.out)
      clear HB
      rename_i HB
      have Z18 : 0 ≤ (Z9 : Int) := od
      have Z19 : Z9 < (l0.length : Int) := od
      obtain ⟨Z20, Z21, Z22, Z23, Z24, Z25, Z26, Z27⟩ := at_T32 Z1.out Z9 Z18 Z19
      have Z28 := Z25
      have Z29 := Z24
      cases Z23
      replace Z24 := hc HB Z24
      replace Z25 := hc HB Z25
      have Z30 := ra Z27
      have Z31 := ra Z26
      clear Z27 Z26
      replace Z18 := eq_true Z18
      replace Z19 := eq_true Z19
      have Z32 : 0 ≤ (Z9 : Int) := od
      have Z33 : Z9 < (l1.length : Int) := od
      obtain ⟨Z34, Z35, Z36, Z37, Z38, Z39, Z40, Z41⟩ := at_T32 Z3.out Z9 Z32 Z33
      have Z42 := Z39
      have Z43 := Z38
      cases Z37
      replace Z38 := hc HB Z38
      replace Z39 := hc HB Z39
      have Z44 := ra Z41
      have Z45 := ra Z40
      clear Z41 Z40
      replace Z32 := eq_true Z32
      replace Z33 := eq_true Z33
      refine start_ (n := 10) (S := fun w' => w'.cell? (Z20.add ((Z9).toNat * 2)) = some (.string ((rd_T32 l0 Z9).f0)) ∧ w'.cell? ⟨(Z20.add ((Z9).toNat * 2)).block, (Z20.add ((Z9).toNat * 2)).off + 1, none⟩ = some (.slice Z21 ((rd_T32 l0 Z9).f1).length Z22) ∧ w'.cell? (Z34.add ((Z9).toNat * 2)) = some (.string ((rd_T32 l1 Z9).f0)) ∧ w'.cell? ⟨(Z34.add ((Z9).toNat * 2)).block, (Z34.add ((Z9).toNat * 2)).off + 1, none⟩ = some (.slice Z35 ((rd_T32 l1 Z9).f1).length Z36)) (ds := []) (bl 10 0) (by kernel_rfl) rfl rfl ⟨(hc HB Z29), (hc HB Z28), (hc HB Z43), (hc HB Z42)⟩ (fun hHeld => ?_); refine with_tabW laws_eqProbeTubeS.tab6 laws_eqProbeTubeS.bits6 (fun HT_ HW_ => ?_)
      generalize wr.drew = Z46 at HB Z30 Z44 Z24 Z25 Z38 Z39 hHeld ⊢
      refine pu 0 17 (bl 10 1) ?_
      refine pu 1 18 (bl 10 3) ?_
      refine pu 2 19 (bl 10 7) ?_
      refine pu 4 21 (bl 10 23) ?_
      refine pu 5 22 (bl 10 55) ?_
      refine pu 6 23 (bl 10 119) ?_
      refine tk 3 20 (bl 10 127) ?_ hHeld
      refine tk 7 24 (bl 10 255) ?_ hHeld
      refine oe 8 25 (bl 10 511) (fun K hK => ?_)
      refine gs Tryz.func63 #[.agg #[.string ((rd_T32 l0 Z9).f0), .slice Z21 ((rd_T32 l0 Z9).f1).length Z22], .agg #[.string ((rd_T32 l1 Z9).f0), .slice Z35 ((rd_T32 l1 Z9).f1).length Z36]] ?_
      with_reducible refine (laws_eqProbeTube.calls Z11 ((rd_T32 l0 Z9).f0) _ _ ((rd_T32 l0 Z9).f1) ((rd_T32 l1 Z9).f0) _ _ ((rd_T32 l1 Z9).f1) false _ ?side1 ?side2 ?side3 ?side4 Z16.out).mono ?_
      (case side1 => exact sc Z30)
      (case side2 => exact Z31.out)
      (case side3 => exact sc Z44)
      (case side4 => exact Z45.out)
      rintro e Z47 ⟨rfl, hb⟩
      refine ⟨_, rfl, ?_⟩
      have _ := bs hb
      clear HB
      rename_i HB
      (try clear hb)
      refine hK.out _ _ ⟨(hc HB Z29), (hc HB Z28), (hc HB Z43), (hc HB Z42)⟩ (fun hHeld => ?_)
      clear hK K
      refine nm 25 ?_
      refine pu 9 26 (bl 10 1023) ?_
      refine done_ (done_of HT_.out (by kernel_rfl)) ?_
      try go_wp2
      go_ret
      exact ⟨re, bq⟩
    ·obtain rfl := Option.some.inj H
     go_wp2
     go_ret
     exact ⟨re, bq⟩
 ·have Z8 : (l0.length == l1.length) = false := by first | simpa using Z5 | (simp at Z5 ⊢; omega)
  obtain rfl := Option.some.inj H
  go_enter Tryz.func28, Tryz.ntmps28
  go_wp2
  go_ret
  exact ⟨re, bq⟩
theorem laws_toProbeSlot.calls (a0_0 a0_1 a0_2 a0_3 : Int) (a0_4 : ByteArray) (a0_5 r1 r2 r3 r4 : Int) (r5 : ByteArray) (r6 : Int) (w : World) (h : laws_toProbeSlot.f a0_0 a0_1 a0_2 a0_3 a0_4 a0_5 = some (r1, r2, r3, r4, r5, r6)) :
  Calls Tryz.prog 141 #[.agg #[.int .i64 a0_0, .int .i64 a0_1, .int .i64 a0_2, .int .i64 a0_3, .string a0_4, .int .i64 a0_5]] w fun e w' => e = .returned (.agg #[.int .i64 r1, .int .i64 r2, .int .i64 r3, .int .i64 r4, .string r5, .int .i64 r6]) ∧ Below w.heap.size w w' := by
 have Z0 := Tryz.underlying184
 have Z1 := Tryz.underlying80
 have HB := ra (Below.refl w.heap.size w)
 have H := h; unfold laws_toProbeSlot.f at H
 clear h
 simp only [Option.some.injEq, Prod.mk.injEq] at H
 obtain ⟨rfl, rfl, rfl, rfl, rfl, rfl⟩ := H
 go_enter Tryz.func141, Tryz.ntmps141
 go_wp2_with (first | ((with_reducible refine gd 1 rfl ?_); refine bd 1 #[.int .i64 a0_0, .int .i64 a0_1, .int .i64 a0_2, .int .i64 a0_3, .string a0_4, .int .i64 a0_5] 184 ?_; intro Z2 Z3 HB Z4 Z5) | ((with_reducible refine gd 2 rfl ?_); refine bf 2 #[.int .i64 0, .int .i64 0, .int .i64 0, .int .i64 0, .string (⟨#[]⟩ : ByteArray), .int .i64 0] 80 ?_; intro Z6 Z7 hg hb HB Z8 Z9; have Z10 := bn hg (bk Z4); have Z11 := bm hg (bk Z4); replace Z4 := bb (bk Z4) hb; clear hg hb) | ((with_reducible refine gd 3 rfl ?_); refine bf 3 #[.int .i64 0, .int .i64 0, .int .i64 0, .int .i64 0, .string (⟨#[]⟩ : ByteArray), .int .i64 0] 80 ?_; intro Z12 Z13 hg hb HB Z14 Z15; have Z16 := bn hg (bk Z4); have Z17 := bm hg (bk Z4); have Z18 := bn hg (bk Z8); have Z19 := bm hg (bk Z8); replace Z4 := bb (bk Z4) hb; replace Z8 := bb (bk Z8) hb; have Z20 := Z10.out; have Z21 := Z11.out; have Z22 := Z16.out; have Z23 := Z17.out; obtain ⟨Z24, Z25, Z26, Z27, Z28, Z29, Z30, Z31, Z32, Z33, Z34, Z35⟩ := zc6 Z4; have Z36 := Z19.out; have Z37 := Z18.out; obtain ⟨Z38, Z39, Z40, Z41, Z42, Z43, Z44, Z45, Z46, Z47, Z48, Z49⟩ := zc6 Z14; obtain ⟨Z50, Z51, Z52, Z53, Z54, Z55, Z56, Z57, Z58, Z59, Z60, Z61⟩ := zc6 Z8; clear hg hb))
 refine bodyPost_ret (results_cell_row rfl _ _ Z6 80 #[.int .i64 a0_0, .int .i64 a0_1, .int .i64 a0_2, .int .i64 a0_3, .string a0_4, .int .i64 a0_5] (0, 0) _ rfl (bp Z8) Tryz.underlying80 rfl (by kernel_rfl)) rfl ?_
 exact ⟨re, bq⟩
theorem laws_toProbeSlotS.calls (k : Nat) (A0 : Option Addr) (c0 : Nat) (l0 : List (S184)) (r : List (S80)) (w : World) (hr0 : Kd.C k184 w A0 l0.length l0) (hc0 : l0.length ≤ c0) (h : laws_toProbeSlotS.f k l0 = some r) :
  Calls Tryz.prog 118 #[.slice A0 l0.length c0] w fun e w' => ∃ v0_ : Value, e = .returned (v0_) ∧ Kd.R k80 80 w' w.heap.size (fun _ => True) v0_ r ∧ Below w.heap.size w w' := by
 have Z0 := Tryz.underlying184
 have Z1 := Tryz.underlying80
 have Z2 := ra hr0
 have Z3 := ra hc0
 clear hr0 hc0
 have HB := ra (Below.refl w.heap.size w)
 have H := h; unfold laws_toProbeSlotS.f at H
 clear h
 by_cases Z4 : 0 ≤ (l0.length : Int)
 ·rw [if_pos Z4] at H
  have Z5 := eq_true Z4
  have Z6 : decide (0 ≤ (l0.length : Int)) = true := decide_eq_true Z4
  clear Z4
  by_cases Z7 : ((l0.length : Int) : Int).toNat ≤ 5026338869833
  ·rw [if_pos Z7] at H
   have Z8 := eq_true Z7
   have Z9 : decide (((l0.length : Int) : Int).toNat ≤ 5026338869833) = true := decide_eq_true Z7
   clear Z7
   obtain ⟨Z10, hy_⟩ : ∃ y_ : List (S80), y_ = (List.replicate ((l0.length : Int) : Int).toNat z80) := ⟨_, rfl⟩
   replace H : (laws_toProbeSlotS.l0 k l0 Z10 0) = some r := yh
   have Z11 := ra hy_
   clear hy_
   have H' := ra H; clear H
   go_enter Tryz.func118, Tryz.ntmps118
   go_wp2_with (first | ((with_reducible refine gd 7 rfl ?_); refine Kd.R_make k80 _ 80 rfl (N := 7) rfl 78 _ _ rfl (l0.length : Int) rfl rfl Tryz.underlying78 (.agg #[(.int .i64 0), (.int .i64 0), (.int .i64 0), (.int .i64 0), (.string ⟨#[]⟩), (.int .i64 0)]) 56 info80 rfl (by decide) (by omega) z80 (ok := fun _ => True) (okp := fun _ => True) (k80_mkM _ _ _ z80 ) (fun _ hk => hk) trivial (od) (Nat.le_trans (Nat.mul_le_mul_right _ (od : (l0.length : Int).toNat ≤ 5026338869833)) (by omega)) (Below.refl _ _) (Nat.le_refl _) ?_; intro Z12 Z13 Z14 hb hg_ hnew_; clear hg_ hnew_; (first | rw [← Z11.out] at Z14 | (simp only [Int.reduceToNat] at Z14; rw [← Z11.out] at Z14)); have Z15 := ra (Kd.R_lower Z14 (below_size bq)); replace HB := bs hb; clear hb Z14))
   go_loopg [4] k (fun kq v4 w' => ∃ (x3_1 : List (S80)) (x4_1 : Int), v4 = .int .i64 x4_1 ∧ Aside0 (laws_toProbeSlotS.l0 kq l0 x3_1 x4_1 = some r) ∧ Aside0 (kq ≤ k) ∧ Aside0 (Kd.R k80 80 w' w.heap.size (fun _ => True) Z12 x3_1) ∧ Aside0 (Below w.heap.size w w'))
   case atStart => exact ⟨_, _, rs, H', ⟨Nat.le_refl _⟩, ⟨rq Z15⟩, ⟨bq⟩⟩
   case round =>
    clear H'
    try clear Z4
    try clear Z5
    try clear Z6
    try clear Z7
    try clear Z8
    try clear Z9
    obtain ⟨Z16, Z17, rfl, HA, Z18, Z19, HB⟩ := hrel
    cases gk with
    | zero => exact absurd HA.out (by simp [laws_toProbeSlotS.l0])
    | succ Z20 =>
     have H := HA.out
     clear HA
     simp only [laws_toProbeSlotS.l0] at H
     rcases td H with ⟨Z21, H⟩ | ⟨Z21, H⟩
     ·obtain ⟨Z22, H⟩ := tn H
      obtain ⟨⟨Z23, Z24, Z25, Z26, Z27, Z28⟩, Z29, H⟩ := bo H
      try dsimp only at H
      obtain ⟨Z30, H⟩ := tn H
      obtain ⟨Z31, hy_⟩ : ∃ y_ : List (S80), y_ = (Z16.set (Z17 : Int).toNat (⟨Z23, Z24, Z25, Z26, Z27, Z28⟩ : S80)) := ⟨_, rfl⟩
      replace H : (laws_toProbeSlotS.l0 Z20 l0 Z31 (wrap64 (Z17 + 1))) = some r := yh
      have Z32 := ra hy_
      clear hy_
      have H' := ra H; clear H
      have Z33 : 0 ≤ (Z17 : Int) := od
      have Z34 : Z17 < (l0.length : Int) := od
      obtain ⟨Z35, Z36, Z37, Z38, Z39, Z40, Z41, Z42⟩ := at_T184 Z2.out Z17 Z33 Z34
      cases Z36
      replace Z37 := hc HB Z37
      replace Z38 := hc HB Z38
      replace Z39 := hc HB Z39
      replace Z40 := hc HB Z40
      replace Z41 := hc HB Z41
      replace Z42 := hc HB Z42
      replace Z33 := eq_true Z33
      replace Z34 := eq_true Z34
      go_wp2_with (first | ((with_reducible refine gc 141 rfl ?_); refine gy (some 20) Tryz.func141 (laws_toProbeSlot.calls _ _ _ _ _ _ _ _ _ _ _ _ _ Z29.out) ?_; rintro Z43 hb; replace Z19 := ra (Kd.R_below (rq Z19) hb); replace HB := bs hb; clear hb; have Z44 : 0 ≤ (Z17 : Int) := od; have Z45 : (Z17 : Int) < ((Z16.length : Int) : Int) := od; obtain ⟨Z46, Z47, Z48, Z49, Z50, Z51, Z52⟩ := Kd.R_form Z19.out (by omega); (first | cases Z48 | (injection Z48 with ea_ en_ ec_; (first | subst ea_ | (injection ea_ with ea_; subst ea_)); subst ec_; clear en_)); have Z53 := Aside0.mk Z49; have Z54 := Aside0.mk Z52; clear Z49 Z50 Z52; obtain ⟨Z55, Z56, Z57, Z58, Z59⟩ := Kd.R_elem Z19.out z80 (Z17 : Int) Z44 Z45; obtain rfl := k80_openM Z57; have Z60 : Z43.cell? ⟨Z46, (Z17 : Int).toNat * 6, none⟩ = some (.int .i64 ((rd_T80 Z16 Z17).f0)) := Z58 0 _ rfl; have Z61 : Z43.cell? ⟨Z46, (Z17 : Int).toNat * 6 + 1, none⟩ = some (.int .i64 ((rd_T80 Z16 Z17).f1)) := Z58 1 _ rfl; have Z62 : Z43.cell? ⟨Z46, (Z17 : Int).toNat * 6 + 2, none⟩ = some (.int .i64 ((rd_T80 Z16 Z17).f2)) := Z58 2 _ rfl; have Z63 : Z43.cell? ⟨Z46, (Z17 : Int).toNat * 6 + 3, none⟩ = some (.int .i64 ((rd_T80 Z16 Z17).f3)) := Z58 3 _ rfl; have Z64 : Z43.cell? ⟨Z46, (Z17 : Int).toNat * 6 + 4, none⟩ = some (.string ((rd_T80 Z16 Z17).f4)) := Z58 4 _ rfl; have Z65 : Z43.cell? ⟨Z46, (Z17 : Int).toNat * 6 + 5, none⟩ = some (.int .i64 ((rd_T80 Z16 Z17).f5)) := Z58 5 _ rfl; have Z66 : Z43.frozen? ⟨Z46, (Z17 : Int).toNat * 6, none⟩ = false := Z59 0; have Z67 : Z43.frozen? ⟨Z46, (Z17 : Int).toNat * 6 + 1, none⟩ = false := Z59 1; have Z68 : Z43.frozen? ⟨Z46, (Z17 : Int).toNat * 6 + 2, none⟩ = false := Z59 2; have Z69 : Z43.frozen? ⟨Z46, (Z17 : Int).toNat * 6 + 3, none⟩ = false := Z59 3; have Z70 : Z43.frozen? ⟨Z46, (Z17 : Int).toNat * 6 + 4, none⟩ = false := Z59 4; have Z71 : Z43.frozen? ⟨Z46, (Z17 : Int).toNat * 6 + 5, none⟩ = false := Z59 5; clear Z56 Z58 Z59 Z57; replace Z44 := eq_true Z44; replace Z45 := eq_true Z45; have Z72 := ra (show Kd.R k80 80 Z43 w.heap.size (fun _ => True) (.slice (some ⟨Z46, 0, none⟩) Z16.length Z47) Z16 from (rq Z19)); obtain ⟨Z73, Z74, Z75, Z76, Z77⟩ := Kd.R_elem Z72.out z80 (Z17 : Int) (od) (by have h_ : (Z17 : Int) < ((Z16.length : Int) : Int) := od; first | exact h_ | (have e_ := (Kd.R_reads' Z19.out).1; omega) | simpa using h_); obtain rfl := k80_openM Z75; have Z78 := Kd.R_seg Z72.out (Z17 : Int) (od) (by have h_ : (Z17 : Int) < ((Z16.length : Int) : Int) := od; first | exact h_ | (have e_ := (Kd.R_reads' Z19.out).1; omega) | simpa using h_) (seg := [.int .i64 Z23, .int .i64 Z24, .int .i64 Z25, .int .i64 Z26, .string Z27, .int .i64 Z28]) (j := 0) Z74 Z76 (show 6 ≤ 6 from by decide) (x' := (⟨Z23, Z24, Z25, Z26, Z27, Z28⟩ : S80)) (k80_mkM _ _ _ (⟨Z23, Z24, Z25, Z26, Z27, Z28⟩ : S80) ) (fun _ hk => hk); have Z79 := Z76 0 _ rfl; (try simp only [show (k80).sz = 6 from rfl, Nat.mul_one, Nat.add_zero] at Z79); have Z80 := Z77 0; (try simp only [show (k80).sz = 6 from rfl, Nat.mul_one, Nat.add_zero] at Z80); have Z81 := Z76 1 _ rfl; (try simp only [show (k80).sz = 6 from rfl, Nat.mul_one, Nat.add_zero] at Z81); have Z82 := Z77 1; (try simp only [show (k80).sz = 6 from rfl, Nat.mul_one, Nat.add_zero] at Z82); have Z83 := Z76 2 _ rfl; (try simp only [show (k80).sz = 6 from rfl, Nat.mul_one, Nat.add_zero] at Z83); have Z84 := Z77 2; (try simp only [show (k80).sz = 6 from rfl, Nat.mul_one, Nat.add_zero] at Z84); have Z85 := Z76 3 _ rfl; (try simp only [show (k80).sz = 6 from rfl, Nat.mul_one, Nat.add_zero] at Z85); have Z86 := Z77 3; (try simp only [show (k80).sz = 6 from rfl, Nat.mul_one, Nat.add_zero] at Z86); have Z87 := Z76 4 _ rfl; (try simp only [show (k80).sz = 6 from rfl, Nat.mul_one, Nat.add_zero] at Z87); have Z88 := Z77 4; (try simp only [show (k80).sz = 6 from rfl, Nat.mul_one, Nat.add_zero] at Z88); have Z89 := Z76 5 _ rfl; (try simp only [show (k80).sz = 6 from rfl, Nat.mul_one, Nat.add_zero] at Z89); have Z90 := Z77 5; (try simp only [show (k80).sz = 6 from rfl, Nat.mul_one, Nat.add_zero] at Z90); clear Z74 Z76 Z77 Z75) | ((with_reducible refine gate_store (t := 80) (p := 21) rfl ?_); refine store_event (t := 80) (p := 21) (v := ?vo_w13) (w1 := ((((((Z43.setCell ⟨Z46, (Z17 : Int).toNat * 6, none⟩ (.int .i64 Z23)).setCell ⟨Z46, (Z17 : Int).toNat * 6 + 1, none⟩ (.int .i64 Z24)).setCell ⟨Z46, (Z17 : Int).toNat * 6 + 2, none⟩ (.int .i64 Z25)).setCell ⟨Z46, (Z17 : Int).toNat * 6 + 3, none⟩ (.int .i64 Z26)).setCell ⟨Z46, (Z17 : Int).toNat * 6 + 4, none⟩ (.string Z27)).setCell ⟨Z46, (Z17 : Int).toNat * 6 + 5, none⟩ (.int .i64 Z28))) ?hg ?ho ?hn ?hr ?_; (case ho => rfl); (case hg => rfl); (case hn => rfl); (case hr => first | (go_simp; done) | (go_simp; rfl)); intro Z91 hw; have hg : Z43.grownBy Z91 (some Z46) := (by rw [hw]; exact Z78.2); have hp_ : Kd.R k80 80 Z91 w.heap.size (fun _ => True) (.slice (some ⟨Z46, 0, none⟩) Z16.length Z47) Z31 := (by rw [hw, Z32.out]; exact Z78.1); clear Z78; replace Z19 := ra (hp_); replace HB := ra ((by rw [hw]; exact below_set (below_set (below_set (below_set (below_set (below_set (HB.out) Z53.out) Z53.out) Z53.out) Z53.out) Z53.out) Z53.out : Below w.heap.size w Z91)); clear hg hw hp_))
      go_roundg Z20
      case measure => have := Z18.out; omega
      case rel => exact ⟨_, _, rs, H', ⟨by have := Z18.out; omega⟩, ⟨rq Z19⟩, ⟨bq⟩⟩
     ·obtain rfl := Option.some.inj H
      go_wp2
      go_ret
      exact ⟨_, re, rq Z19, bq⟩
  ·rw [if_neg Z7] at H
   exact absurd H (by simp)
 ·rw [if_neg Z4] at H
  exact absurd H (by simp)
theorem laws_toProbeCell.calls (k : Nat) (a0_0 a0_1 : Int) (A0_2 : Option Addr) (c0_2 : Nat) (l0_2 : List (S184)) (r1 r2 : Int) (r3 : List (S80)) (w : World) (hr0_2 : Kd.C k184 w A0_2 l0_2.length l0_2) (hc0_2 : l0_2.length ≤ c0_2) (h : laws_toProbeCell.f k a0_0 a0_1 l0_2 = some (r1, r2, r3)) :
  Calls Tryz.prog 85 #[.agg #[.int .i64 a0_0, .int .i64 a0_1, .slice A0_2 l0_2.length c0_2]] w fun e w' => ∃ v2_ : Value, e = .returned (.agg #[.int .i64 r1, .int .i64 r2, v2_]) ∧ Kd.R k80 80 w' w.heap.size (fun _ => True) v2_ r3 ∧ Below w.heap.size w w' := by
 have Z0 := Tryz.underlying133
 have Z1 := Tryz.underlying84
 have Z2 := ra hr0_2
 have Z3 := ra hc0_2
 clear hr0_2 hc0_2
 have HB := ra (Below.refl w.heap.size w)
 have H := h; unfold laws_toProbeCell.f at H
 clear h
 obtain ⟨Z4, Z5, H⟩ := bo H
 simp only [Option.some.injEq, Prod.mk.injEq] at H
 obtain ⟨rfl, rfl, rfl⟩ := H
 go_enter Tryz.func85, Tryz.ntmps85
 go_wp2_with (first | ((with_reducible refine gd 1 rfl ?_); refine bd 1 #[.int .i64 a0_0, .int .i64 a0_1, .slice A0_2 l0_2.length c0_2] 133 ?_; intro Z6 Z7 HB Z8 Z9) | ((with_reducible refine gd 2 rfl ?_); refine bf 2 #[.int .i64 0, .int .i64 0, .slice none 0 0] 84 ?_; intro Z10 Z11 hg hb HB Z12 Z13; have Z14 := bn hg (bk Z8); have Z15 := bm hg (bk Z8); replace Z8 := bb (bk Z8) hb; clear hg hb) | ((with_reducible refine gd 3 rfl ?_); refine bf 3 #[.int .i64 0, .int .i64 0, .slice none 0 0] 84 ?_; intro Z16 Z17 hg hb HB Z18 Z19; have Z20 := bn hg (bk Z8); have Z21 := bm hg (bk Z8); have Z22 := bn hg (bk Z12); have Z23 := bm hg (bk Z12); replace Z8 := bb (bk Z8) hb; replace Z12 := bb (bk Z12) hb; have Z24 := Z14.out; have Z25 := Z15.out; have Z26 := Z20.out; have Z27 := Z21.out; have Z28 : Z17.cell? ⟨Z6, 0, none⟩ = some (.int .i64 a0_0) := (blk_cell Z8.out 0).trans rfl; have Z29 : Z17.cell? ⟨Z6, 1, none⟩ = some (.int .i64 a0_1) := (blk_cell Z8.out 1).trans rfl; have Z30 : Z17.cell? ⟨Z6, 2, none⟩ = some (.slice A0_2 l0_2.length c0_2) := (blk_cell Z8.out 2).trans rfl; have Z31 := blk_frozen Z8.out 0; have Z32 := blk_frozen Z8.out 1; have Z33 := blk_frozen Z8.out 2; have Z34 := Z23.out; have Z35 := Z22.out; have Z36 : Z17.cell? ⟨Z16, 0, none⟩ = some (.int .i64 0) := (blk_cell Z18.out 0).trans rfl; have Z37 : Z17.cell? ⟨Z16, 1, none⟩ = some (.int .i64 0) := (blk_cell Z18.out 1).trans rfl; have Z38 : Z17.cell? ⟨Z16, 2, none⟩ = some (.slice none 0 0) := (blk_cell Z18.out 2).trans rfl; have Z39 := blk_frozen Z18.out 0; have Z40 := blk_frozen Z18.out 1; have Z41 := blk_frozen Z18.out 2; clear hg hb) | ((with_reducible refine gc 118 rfl ?_); refine gx (some 12) Tryz.func118 (laws_toProbeSlotS.calls _ _ _ _ _ _ (Kd.C_below Z2.out bq) Z3.out Z5.out) ?_; rintro Z42 Z43 ⟨Z44, hb⟩; have Z45 := ra (Kd.R_lower Z44 (below_size bq)); replace Z8 := bb (bk Z8) hb; replace Z12 := bb (bk Z12) hb; replace Z18 := bb (o := .cells #[.int .i64 a0_0, .int .i64 a0_1, .slice none 0 0] 84 (0, 0)) (bp Z18) hb; replace HB := bs hb; clear hb Z44; obtain ⟨Z46, Z47, Z48⟩ := Kd.R_slice Z45.out; subst Z48; have Z49 : Z43.cell? ⟨Z16, 0, none⟩ = some (.int .i64 a0_0) := (blk_cell Z18.out 0).trans rfl; have Z50 : Z43.cell? ⟨Z16, 1, none⟩ = some (.int .i64 a0_1) := (blk_cell Z18.out 1).trans rfl; have Z51 : Z43.cell? ⟨Z16, 2, none⟩ = some (.slice none 0 0) := (blk_cell Z18.out 2).trans rfl; have Z52 := blk_frozen Z18.out 0; have Z53 := blk_frozen Z18.out 1; have Z54 := blk_frozen Z18.out 2; have Z55 : Z43.cell? ⟨Z10, 0, none⟩ = some (.int .i64 0) := (blk_cell Z12.out 0).trans rfl; have Z56 : Z43.cell? ⟨Z10, 1, none⟩ = some (.int .i64 0) := (blk_cell Z12.out 1).trans rfl; have Z57 : Z43.cell? ⟨Z10, 2, none⟩ = some (.slice none 0 0) := (blk_cell Z12.out 2).trans rfl; have Z58 := blk_frozen Z12.out 0; have Z59 := blk_frozen Z12.out 1; have Z60 := blk_frozen Z12.out 2))
 refine bodyPost_ret (results_cell_row rfl _ _ Z10 84 #[.int .i64 a0_0, .int .i64 a0_1, .slice Z46 Z4.length Z47] (0, 0) _ rfl (bp Z12) Tryz.underlying84 rfl (by kernel_rfl)) rfl ?_
 exact ⟨_, re, by (with_reducible repeat (first | apply Kd.R_alloc | apply Kd.R_drewN | apply Kd.R_drew)); exact Kd.R_mono (rf (Kd.R_types (Kd.R_types Z45.out Z18.out (by decide)) Z12.out (by decide))) (fun _ hk => trivial), bq⟩
theorem laws_toProbeCellS.calls (k : Nat) (A0 : Option Addr) (c0 : Nat) (l0 : List (S133)) (r : List (S84)) (w : World) (hr0 : Kd.C k133 w A0 l0.length l0) (hc0 : l0.length ≤ c0) (h : laws_toProbeCellS.f k l0 = some r) :
  Calls Tryz.prog 60 #[.slice A0 l0.length c0] w fun e w' => ∃ v0_ : Value, e = .returned (v0_) ∧ Kd.S k84 84 w' w.heap.size (fun _ => True) v0_ r ∧ Below w.heap.size w w' := by
 have Z0 := Tryz.underlying133
 have Z1 := Tryz.underlying84
 have Z2 := ra hr0
 have Z3 := ra hc0
 clear hr0 hc0
 have HB := ra (Below.refl w.heap.size w)
 have H := h; unfold laws_toProbeCellS.f at H
 clear h
 by_cases Z4 : 0 ≤ (l0.length : Int)
 ·rw [if_pos Z4] at H
  have Z5 := eq_true Z4
  have Z6 : decide (0 ≤ (l0.length : Int)) = true := decide_eq_true Z4
  clear Z4
  by_cases Z7 : ((l0.length : Int) : Int).toNat ≤ 7036874417766
  ·rw [if_pos Z7] at H
   have Z8 := eq_true Z7
   have Z9 : decide (((l0.length : Int) : Int).toNat ≤ 7036874417766) = true := decide_eq_true Z7
   clear Z7
   obtain ⟨Z10, hy_⟩ : ∃ y_ : List (S84), y_ = (List.replicate ((l0.length : Int) : Int).toNat z84) := ⟨_, rfl⟩
   replace H : (laws_toProbeCellS.l0 k l0 Z10 0) = some r := yh
   have Z11 := ra hy_
   clear hy_
   have H' := ra H; clear H
   go_enter Tryz.func60, Tryz.ntmps60
   go_wp2_with (first | ((with_reducible refine gd 7 rfl ?_); refine Kd.S_make k84 _ 84 rfl (N := 7) rfl 26 _ _ rfl (l0.length : Int) rfl rfl Tryz.underlying26 (.agg #[(.int .i64 0), (.int .i64 0), (.slice none 0 0)]) 40 info84 rfl (by decide) (by omega) z84 (ok := fun _ => True) (okp := fun _ => True) (k84_mkM _ _ _ z84 (Kd.R_nil _ _ _ _ _)) (fun _ hk => hk) trivial (od) (Nat.le_trans (Nat.mul_le_mul_right _ (od : (l0.length : Int).toNat ≤ 7036874417766)) (by omega)) (Below.refl _ _) (Nat.le_refl _) ?_; intro Z12 Z13 Z14 hb hg_ hnew_; clear hg_ hnew_; (first | rw [← Z11.out] at Z14 | (simp only [Int.reduceToNat] at Z14; rw [← Z11.out] at Z14)); have Z15 := ra (Kd.S_lower Z14 (below_size bq)); replace HB := bs hb; clear hb Z14))
   go_loopg [4] k (fun kq v4 w' => ∃ (x3_1 : List (S84)) (x4_1 : Int), v4 = .int .i64 x4_1 ∧ Aside0 (laws_toProbeCellS.l0 kq l0 x3_1 x4_1 = some r) ∧ Aside0 (kq ≤ k) ∧ Aside0 (Kd.S k84 84 w' w.heap.size (fun _ => True) Z12 x3_1) ∧ Aside0 (Below w.heap.size w w'))
   case atStart => exact ⟨_, _, rs, H', ⟨Nat.le_refl _⟩, ⟨by (with_reducible repeat (first | apply Kd.S_alloc | apply Kd.S_drewN | apply Kd.S_drew)); exact Z15.out⟩, ⟨bq⟩⟩
   case round =>
    clear H'
    try clear Z4
    try clear Z5
    try clear Z6
    try clear Z7
    try clear Z8
    try clear Z9
    obtain ⟨Z16, Z17, rfl, HA, Z18, Z19, HB⟩ := hrel
    cases gk with
    | zero => exact absurd HA.out (by simp [laws_toProbeCellS.l0])
    | succ Z20 =>
     have H := HA.out
     clear HA
     simp only [laws_toProbeCellS.l0] at H
     rcases td H with ⟨Z21, H⟩ | ⟨Z21, H⟩
     ·obtain ⟨Z22, H⟩ := tn H
      obtain ⟨⟨Z23, Z24, Z25⟩, Z26, H⟩ := bo H
      try dsimp only at H
      obtain ⟨Z27, H⟩ := tn H
      obtain ⟨Z28, hy_⟩ : ∃ y_ : List (S84), y_ = (Z16.set (Z17 : Int).toNat (⟨Z23, Z24, Z25⟩ : S84)) := ⟨_, rfl⟩
      replace H : (laws_toProbeCellS.l0 Z20 l0 Z28 (wrap64 (Z17 + 1))) = some r := yh
      have Z29 := ra hy_
      clear hy_
      have H' := ra H; clear H
      have Z30 : 0 ≤ (Z17 : Int) := od
      have Z31 : Z17 < (l0.length : Int) := od
      obtain ⟨Z32, Z33, Z34, Z35, Z36, Z37, Z38, Z39, Z40⟩ := at_T133 Z2.out Z17 Z30 Z31
      cases Z35
      replace Z36 := hc HB Z36
      replace Z37 := hc HB Z37
      replace Z38 := hc HB Z38
      have Z41 := ra Z40
      have Z42 := ra Z39
      clear Z40 Z39
      replace Z30 := eq_true Z30
      replace Z31 := eq_true Z31
      go_wp2_with (first | ((with_reducible refine gc 85 rfl ?_); refine gm (some 20) Tryz.func85 (laws_toProbeCell.calls _ _ _ _ _ _ _ _ _ _ (sc Z41) Z42.out Z26.out) ?_; rintro e Z43 ⟨Z44, rfl, Z45, hb⟩; obtain ⟨Z46, Z47, Z48⟩ := Kd.R_slice Z45; subst Z48; refine ⟨_, rfl, ?_⟩; have Z49 := ra (Kd.R_lower Z45 (below_size bq)); replace Z19 := ra (Kd.S_elder' (by (with_reducible repeat (first | apply Kd.S_alloc | apply Kd.S_drewN | apply Kd.S_drew)); exact Z19.out) (Kd.R_base Z45) hb); replace HB := bs hb; clear hb Z45; have Z50 : 0 ≤ (Z17 : Int) := od; have Z51 : (Z17 : Int) < ((Z16.length : Int) : Int) := od; obtain ⟨Z52, Z53, Z54, Z55, Z56, Z57, Z58⟩ := Kd.S_form Z19.out (by omega); (first | cases Z54 | (injection Z54 with ea_ en_ ec_; (first | subst ea_ | (injection ea_ with ea_; subst ea_)); subst ec_; clear en_)); have Z59 := Aside0.mk Z55; have Z60 := Aside0.mk Z58; clear Z55 Z56 Z58; obtain ⟨_, Z61, Z62, Z63, Z64, Z65, _, _⟩ := Kd.S_elem Z19.out z84 (Z17 : Int) Z50 Z51; obtain ⟨Z66, rfl, Z67⟩ := k84_openM Z63; have Z68 : Z43.cell? ⟨Z52, (Z17 : Int).toNat * 3, none⟩ = some (.int .i64 ((rd_T84 Z16 Z17).f0)) := Z64 0 _ rfl; have Z69 : Z43.cell? ⟨Z52, (Z17 : Int).toNat * 3 + 1, none⟩ = some (.int .i64 ((rd_T84 Z16 Z17).f1)) := Z64 1 _ rfl; have Z70 : Z43.cell? ⟨Z52, (Z17 : Int).toNat * 3 + 2, none⟩ = some (Z66) := Z64 2 _ rfl; have Z71 : Z43.frozen? ⟨Z52, (Z17 : Int).toNat * 3, none⟩ = false := Z65 0; have Z72 : Z43.frozen? ⟨Z52, (Z17 : Int).toNat * 3 + 1, none⟩ = false := Z65 1; have Z73 : Z43.frozen? ⟨Z52, (Z17 : Int).toNat * 3 + 2, none⟩ = false := Z65 2; clear Z62 Z64 Z65 Z63; replace Z50 := eq_true Z50; replace Z51 := eq_true Z51; have n_ := ra (Kd.S_mono (ok' := (fun k_ => some k_ ≠ ((.slice Z46 Z25.length Z47 : Value) : Value).ownBlock)) Z19.out (fun k_ hk => hk.2)); clear Z19; have Z19 := n_; clear n_; have Z74 := ra (show Kd.S k84 84 Z43 w.heap.size (fun k_ => ((fun _ => True)) k_ ∧ ¬ ((fun k_ => some k_ = ((.slice Z46 Z25.length Z47 : Value) : Value).ownBlock)) k_) (.slice (some ⟨Z52, 0, none⟩) Z16.length Z53) Z16 from (by (with_reducible repeat (first | apply Kd.S_alloc | apply Kd.S_drewN | apply Kd.S_drew)); exact Kd.S_mono Z19.out (fun k_ hk => ⟨trivial, fun e_ => hk e_⟩))); obtain ⟨Z75, Z76, Z77, Z78, Z79, Z80, Z81, Z82⟩ := Kd.S_elem Z74.out z84 (Z17 : Int) (od) (by have h_ : (Z17 : Int) < ((Z16.length : Int) : Int) := od; first | exact h_ | (have e_ := (Kd.S_reads' Z19.out).1; omega) | simpa using h_); obtain ⟨Z83, rfl, Z84⟩ := k84_openM Z78; have Z85 := Kd.S_seg Z82 (od) (by have h_ : (Z17 : Int) < ((Z16.length : Int) : Int) := od; first | exact h_ | (have e_ := (Kd.S_reads' Z19.out).1; omega) | simpa using h_) (seg := [.int .i64 Z23, .int .i64 Z24, (.slice Z46 Z25.length Z47 : Value)]) (j := 0) (show 3 ≤ 3 from by decide) (x' := (⟨Z23, Z24, Z25⟩ : S84)) (k84_mkM _ _ _ (⟨Z23, Z24, Z25⟩ : S84) (Kd.R_mono (Kd.R_tight rfl (Kd.R_mono (ok' := fun k_ => ((fun _ => True)) k_ ∧ k_ ≠ Z52) (Kd.R_apart' (Z49.out) (Kd.S_typed Z19.out) (by decide)) (fun k_ hk => ⟨trivial, fun e_ => (hk.2) (by rw [e_]; rfl)⟩))) (fun _ h_ => Or.inr (h_)))) (fun _ hk => hk) (fun k_ hk_ => ((Kd.R_mono (ok' := fun k_ => ((fun _ => True)) k_ ∧ k_ ≠ Z52) (Kd.R_apart' (Z49.out) (Kd.S_typed Z19.out) (by decide)) (fun k_ hk => ⟨trivial, fun e_ => (hk.2) (by rw [e_]; rfl)⟩))).1 k_ hk_.symm); have Z86 := Z79 0 _ rfl; (try simp only [show (k84).sz = 3 from rfl, Nat.mul_one, Nat.add_zero] at Z86); have Z87 := Z80 0; (try simp only [show (k84).sz = 3 from rfl, Nat.mul_one, Nat.add_zero] at Z87); have Z88 := Z79 1 _ rfl; (try simp only [show (k84).sz = 3 from rfl, Nat.mul_one, Nat.add_zero] at Z88); have Z89 := Z80 1; (try simp only [show (k84).sz = 3 from rfl, Nat.mul_one, Nat.add_zero] at Z89); have Z90 := Z79 2 _ rfl; (try simp only [show (k84).sz = 3 from rfl, Nat.mul_one, Nat.add_zero] at Z90); have Z91 := Z80 2; (try simp only [show (k84).sz = 3 from rfl, Nat.mul_one, Nat.add_zero] at Z91); clear Z77 Z79 Z80 Z78 Z81 Z82) | ((with_reducible refine gate_store (t := 84) (p := 21) rfl ?_); refine store_event (t := 84) (p := 21) (v := ?vo_w13) (w1 := (((Z43.setCell ⟨Z52, (Z17 : Int).toNat * 3, none⟩ (.int .i64 Z23)).setCell ⟨Z52, (Z17 : Int).toNat * 3 + 1, none⟩ (.int .i64 Z24)).setCell ⟨Z52, (Z17 : Int).toNat * 3 + 2, none⟩ ((.slice Z46 Z25.length Z47 : Value)))) ?hg ?ho ?hn ?hr ?_; (case ho => rfl); (case hg => rfl); (case hn => rfl); (case hr => first | (go_simp; done) | (go_simp; rfl)); intro Z92 hw; have hg : Z43.grownBy Z92 (some Z52) := (by rw [hw]; exact Z85.2); have hp_ : Kd.S k84 84 Z92 w.heap.size (fun _ => True) (.slice (some ⟨Z52, 0, none⟩) Z16.length Z53) Z28 := (by rw [hw, Z29.out]; exact Z85.1); clear Z85; have _ := ra (hp_); have _ := ra ((by rw [hw]; exact below_set (below_set (below_set (HB.out) Z59.out) Z59.out) Z59.out : Below w.heap.size w Z92)); clear Z19 HB Z49; rename_i Z19 HB; clear hg hw hp_))
      go_roundg Z20
      case measure => have := Z18.out; omega
      case rel => exact ⟨_, _, rs, H', ⟨by have := Z18.out; omega⟩, ⟨by (with_reducible repeat (first | apply Kd.S_alloc | apply Kd.S_drewN | apply Kd.S_drew)); exact Z19.out⟩, ⟨bq⟩⟩
     ·obtain rfl := Option.some.inj H
      go_wp2
      go_ret
      exact ⟨_, re, by (with_reducible repeat (first | apply Kd.S_alloc | apply Kd.S_drewN | apply Kd.S_drew)); exact Z19.out, bq⟩
  ·rw [if_neg Z7] at H
   exact absurd H (by simp)
 ·rw [if_neg Z4] at H
  exact absurd H (by simp)
theorem laws_toProbeIndex.calls (k : Nat) (A0_0 : Option Addr) (c0_0 : Nat) (l0_0 : List (S133)) (r : List (S84)) (w : World) (hr0_0 : Kd.C k133 w A0_0 l0_0.length l0_0) (hc0_0 : l0_0.length ≤ c0_0) (h : laws_toProbeIndex.f k l0_0 = some r) :
  Calls Tryz.prog 24 #[.agg #[.slice A0_0 l0_0.length c0_0]] w fun e w' => ∃ v0_ : Value, e = .returned (.agg #[v0_]) ∧ Kd.S k84 84 w' w.heap.size (fun _ => True) v0_ r ∧ Below w.heap.size w w' := by
 have Z0 := Tryz.underlying51
 have Z1 := Tryz.underlying28
 have Z2 := ra hr0_0
 have Z3 := ra hc0_0
 clear hr0_0 hc0_0
 have HB := ra (Below.refl w.heap.size w)
 have H := h; unfold laws_toProbeIndex.f at H
 clear h
 obtain ⟨Z4, Z5, H⟩ := bo H
 obtain rfl := Option.some.inj H
 go_enter Tryz.func24, Tryz.ntmps24
 go_wp2_with (first | ((with_reducible refine gd 1 rfl ?_); refine bd 1 #[.slice A0_0 l0_0.length c0_0] 51 ?_; intro Z6 Z7 HB Z8 Z9) | ((with_reducible refine gd 2 rfl ?_); refine bf 2 #[.slice none 0 0] 28 ?_; intro Z10 Z11 hg hb HB Z12 Z13; have Z14 := bn hg (bk Z8); have Z15 := bm hg (bk Z8); replace Z8 := bb (bk Z8) hb; clear hg hb) | ((with_reducible refine gd 3 rfl ?_); refine bf 3 #[.slice none 0 0] 28 ?_; intro Z16 Z17 hg hb HB Z18 Z19; have Z20 := bn hg (bk Z8); have Z21 := bm hg (bk Z8); have Z22 := bn hg (bk Z12); have Z23 := bm hg (bk Z12); replace Z8 := bb (bk Z8) hb; replace Z12 := bb (bk Z12) hb; have Z24 := Z14.out; have Z25 := Z15.out; have Z26 := Z20.out; have Z27 := Z21.out; obtain ⟨Z28, Z29⟩ := zc1 Z8; clear hg hb) | ((with_reducible refine gc 60 rfl ?_); refine gx (some 6) Tryz.func60 (laws_toProbeCellS.calls _ _ _ _ _ _ (sc Z2) Z3.out Z5.out) ?_; rintro Z30 Z31 ⟨Z32, hb⟩; have Z33 := ra (Kd.S_lower Z32 (below_size bq)); replace Z8 := bb (bk Z8) hb; replace Z12 := bb (bk Z12) hb; replace Z18 := bb (bk Z18) hb; replace HB := bs hb; clear hb Z32; obtain ⟨Z34, Z35, Z36⟩ := Kd.S_slice Z33.out; subst Z36; have Z37 := Z23.out; have Z38 := Z22.out; obtain ⟨Z39, Z40⟩ := zc1 Z18; obtain ⟨Z41, Z42⟩ := zc1 Z12))
 refine bodyPost_ret (results_cell_row rfl _ _ Z10 28 #[.slice Z34 Z4.length Z35] (0, 0) _ rfl (bp Z12) Tryz.underlying28 rfl (by kernel_rfl)) rfl ?_
 exact ⟨_, re, by (with_reducible repeat (first | apply Kd.S_alloc | apply Kd.S_drewN | apply Kd.S_drew)); exact Kd.S_mono (Kd.S_far (p := ⟨Z10, 0, none⟩) (Kd.S_far (p := ⟨Z16, 0, none⟩) (Kd.S_types (Kd.S_types Z33.out Z18.out (by decide)) Z12.out (by decide)) (fun _ hk => hk.1.2) (.slice Z34 Z4.length Z35)) (fun _ hk => hk.2) (.slice Z34 Z4.length Z35)) (fun _ hk => trivial), bq⟩
theorem laws_szProbeSlot.calls (a0_0 a0_1 a0_2 a0_3 : Int) (a0_4 : ByteArray) (a0_5 a1 r : Int) (w : World) (h : laws_szProbeSlot.f a0_0 a0_1 a0_2 a0_3 a0_4 a0_5 a1 = some r) :
  Calls Tryz.prog 139 #[.agg #[.int .i64 a0_0, .int .i64 a0_1, .int .i64 a0_2, .int .i64 a0_3, .string a0_4, .int .i64 a0_5], .int .i64 a1] w fun e w' => e = .returned (.int .i64 r) ∧ Below w.heap.size w w' := by
 have Z0 := Tryz.underlying184
 have HB := ra (Below.refl w.heap.size w)
 have H := h; unfold laws_szProbeSlot.f at H
 clear h
 rcases td H with ⟨Z1, H⟩ | ⟨Z1, H⟩
 rotate_left
 rotate_left
 all_goals
  obtain rfl := Option.some.inj H
  go_enter Tryz.func139, Tryz.ntmps139
  go_wp2_with (first | ((with_reducible refine gd 2 rfl ?_); refine bd 2 #[.int .i64 a0_0, .int .i64 a0_1, .int .i64 a0_2, .int .i64 a0_3, .string a0_4, .int .i64 a0_5] 184 ?_; intro Z2 Z3 HB Z4 Z5; obtain ⟨Z6, Z7, Z8, Z9, Z10, Z11, Z12, Z13, Z14, Z15, Z16, Z17⟩ := zc6 Z4))
  go_ret
  exact ⟨re, bq⟩
theorem laws_szProbeSlotS.calls (k : Nat) (A0 : Option Addr) (c0 : Nat) (l0 : List (S184)) (a1 r : Int) (w : World) (hr0 : Kd.C k184 w A0 l0.length l0) (hc0 : l0.length ≤ c0) (h : laws_szProbeSlotS.f k l0 a1 = some r) :
  Calls Tryz.prog 116 #[.slice A0 l0.length c0, .int .i64 a1] w fun e w' => e = .returned (.int .i64 r) ∧ Below w.heap.size w w' := by
 have Z0 := Tryz.underlying184
 have Z1 := ra hr0
 have Z2 := ra hc0
 clear hr0 hc0
 have HB := ra (Below.refl w.heap.size w)
 have H := h; unfold laws_szProbeSlotS.f at H
 clear h
 rcases td H with ⟨Z3, H⟩ | ⟨Z3, H⟩
 ·obtain rfl := Option.some.inj H
  go_enter Tryz.func116, Tryz.ntmps116
  go_wp2
  go_ret
  exact ⟨re, bq⟩
 ·have H' := ra H; clear H
  go_enter Tryz.func116, Tryz.ntmps116
  go_wp2
  go_loopg [1, 5] k (fun kq v1 v5 w' => ∃ (x1_1 : Int) (x5_1 : Int), v1 = .int .i64 x1_1 ∧ v5 = .int .i64 x5_1 ∧ Aside0 (laws_szProbeSlotS.l0 kq l0 x1_1 x5_1 = some r) ∧ Aside0 (kq ≤ k) ∧ Aside0 (Below w.heap.size w w'))
  case atStart => exact ⟨(wrap64 (a1 - (l0.length : Int))), (0), rs, rs, H', ⟨Nat.le_refl _⟩, ⟨bq⟩⟩
  case round =>
   clear H'
   try clear Z3
   obtain ⟨Z4, Z5, rfl, rfl, HA, Z6, HB⟩ := hrel
   cases gk with
   | zero => exact absurd HA.out (by simp [laws_szProbeSlotS.l0])
   | succ Z7 =>
    have H := HA.out
    clear HA
    simp only [laws_szProbeSlotS.l0] at H
    rcases td H with ⟨Z8, H⟩ | ⟨Z8, H⟩
    ·obtain ⟨Z9, H⟩ := tn H
     obtain ⟨Z10, Z11, H⟩ := bo H
     rcases td H with ⟨Z12, H⟩ | ⟨Z12, H⟩
     ·obtain rfl := Option.some.inj H
      have Z13 : 0 ≤ (Z5 : Int) := od
      have Z14 : Z5 < (l0.length : Int) := od
      obtain ⟨Z15, Z16, Z17, Z18, Z19, Z20, Z21, Z22⟩ := at_T184 Z1.out Z5 Z13 Z14
      cases Z16
      replace Z17 := hc HB Z17
      replace Z18 := hc HB Z18
      replace Z19 := hc HB Z19
      replace Z20 := hc HB Z20
      replace Z21 := hc HB Z21
      replace Z22 := hc HB Z22
      replace Z13 := eq_true Z13
      replace Z14 := eq_true Z14
      go_wp2_with (first | ((with_reducible refine gc 139 rfl ?_); refine gy (some 23) Tryz.func139 (laws_szProbeSlot.calls _ _ _ _ _ _ _ _ _ Z11.out) ?_; rintro Z23 hb; replace HB := bs hb; clear hb))
      go_ret
      exact ⟨re, bq⟩
     ·have H' := ra H; clear H
      have Z13 : 0 ≤ (Z5 : Int) := od
      have Z14 : Z5 < (l0.length : Int) := od
      obtain ⟨Z15, Z16, Z17, Z18, Z19, Z20, Z21, Z22⟩ := at_T184 Z1.out Z5 Z13 Z14
      cases Z16
      replace Z17 := hc HB Z17
      replace Z18 := hc HB Z18
      replace Z19 := hc HB Z19
      replace Z20 := hc HB Z20
      replace Z21 := hc HB Z21
      replace Z22 := hc HB Z22
      replace Z13 := eq_true Z13
      replace Z14 := eq_true Z14
      go_wp2_with (first | ((with_reducible refine gc 139 rfl ?_); refine gy (some 23) Tryz.func139 (laws_szProbeSlot.calls _ _ _ _ _ _ _ _ _ Z11.out) ?_; rintro Z23 hb; replace HB := bs hb; clear hb))
      go_roundg Z7
      case measure => have := Z6.out; omega
      case rel => exact ⟨(Z10), (wrap64 (Z5 + 1)), rs, rs, H', ⟨by have := Z6.out; omega⟩, ⟨bq⟩⟩
    ·obtain rfl := Option.some.inj H
     go_wp2
     go_ret
     exact ⟨re, bq⟩
theorem laws_szProbeCell.calls (k : Nat) (a0_0 a0_1 : Int) (A0_2 : Option Addr) (c0_2 : Nat) (l0_2 : List (S184)) (a1 r : Int) (w : World) (hr0_2 : Kd.C k184 w A0_2 l0_2.length l0_2) (hc0_2 : l0_2.length ≤ c0_2) (h : laws_szProbeCell.f k a0_0 a0_1 l0_2 a1 = some r) :
  Calls Tryz.prog 82 #[.agg #[.int .i64 a0_0, .int .i64 a0_1, .slice A0_2 l0_2.length c0_2], .int .i64 a1] w fun e w' => e = .returned (.int .i64 r) ∧ Below w.heap.size w w' := by
 have Z0 := Tryz.underlying133
 have Z1 := ra hr0_2
 have Z2 := ra hc0_2
 clear hr0_2 hc0_2
 have HB := ra (Below.refl w.heap.size w)
 have H := h; unfold laws_szProbeCell.f at H
 clear h
 obtain ⟨Z3, Z4, H⟩ := bo H
 rcases td H with ⟨Z5, H⟩ | ⟨Z5, H⟩
 rotate_left
 rotate_left
 all_goals
  obtain rfl := Option.some.inj H
  go_enter Tryz.func82, Tryz.ntmps82
  go_wp2_with (first | ((with_reducible refine gd 2 rfl ?_); refine bd 2 #[.int .i64 a0_0, .int .i64 a0_1, .slice A0_2 l0_2.length c0_2] 133 ?_; intro Z6 Z7 HB Z8 Z9; have Z10 : Z7.cell? ⟨Z6, 0, none⟩ = some (.int .i64 a0_0) := (blk_cell Z8.out 0).trans rfl; have Z11 : Z7.cell? ⟨Z6, 1, none⟩ = some (.int .i64 a0_1) := (blk_cell Z8.out 1).trans rfl; have Z12 : Z7.cell? ⟨Z6, 2, none⟩ = some (.slice A0_2 l0_2.length c0_2) := (blk_cell Z8.out 2).trans rfl; have Z13 := blk_frozen Z8.out 0; have Z14 := blk_frozen Z8.out 1; have Z15 := blk_frozen Z8.out 2) | ((with_reducible refine gc 116 rfl ?_); refine gy (some 8) Tryz.func116 (laws_szProbeSlotS.calls _ _ _ _ _ _ _ (sc Z1) Z2.out Z4.out) ?_; rintro Z16 hb; replace Z8 := bb (bk Z8) hb; replace HB := bs hb; clear hb))
  go_ret
  exact ⟨re, bq⟩
theorem laws_szProbeCellS.calls (k : Nat) (A0 : Option Addr) (c0 : Nat) (l0 : List (S133)) (a1 r : Int) (w : World) (hr0 : Kd.C k133 w A0 l0.length l0) (hc0 : l0.length ≤ c0) (h : laws_szProbeCellS.f k l0 a1 = some r) :
  Calls Tryz.prog 57 #[.slice A0 l0.length c0, .int .i64 a1] w fun e w' => e = .returned (.int .i64 r) ∧ Below w.heap.size w w' := by
 have Z0 := Tryz.underlying133
 have Z1 := ra hr0
 have Z2 := ra hc0
 clear hr0 hc0
 have HB := ra (Below.refl w.heap.size w)
 have H := h; unfold laws_szProbeCellS.f at H
 clear h
 rcases td H with ⟨Z3, H⟩ | ⟨Z3, H⟩
 ·obtain rfl := Option.some.inj H
  go_enter Tryz.func57, Tryz.ntmps57
  go_wp2
  go_ret
  exact ⟨re, bq⟩
 ·have H' := ra H; clear H
  go_enter Tryz.func57, Tryz.ntmps57
  go_wp2
  go_loopg [1, 5] k (fun kq v1 v5 w' => ∃ (x1_1 : Int) (x5_1 : Int), v1 = .int .i64 x1_1 ∧ v5 = .int .i64 x5_1 ∧ Aside0 (laws_szProbeCellS.l0 kq l0 x1_1 x5_1 = some r) ∧ Aside0 (kq ≤ k) ∧ Aside0 (Below w.heap.size w w'))
  case atStart => exact ⟨(wrap64 (a1 - (l0.length : Int))), (0), rs, rs, H', ⟨Nat.le_refl _⟩, ⟨bq⟩⟩
  case round =>
   clear H'
   try clear Z3
   obtain ⟨Z4, Z5, rfl, rfl, HA, Z6, HB⟩ := hrel
   cases gk with
   | zero => exact absurd HA.out (by simp [laws_szProbeCellS.l0])
   | succ Z7 =>
    have H := HA.out
    clear HA
    simp only [laws_szProbeCellS.l0] at H
    rcases td H with ⟨Z8, H⟩ | ⟨Z8, H⟩
    ·obtain ⟨Z9, H⟩ := tn H
     obtain ⟨Z10, Z11, H⟩ := bo H
     rcases td H with ⟨Z12, H⟩ | ⟨Z12, H⟩
     ·obtain rfl := Option.some.inj H
      have Z13 : 0 ≤ (Z5 : Int) := od
      have Z14 : Z5 < (l0.length : Int) := od
      obtain ⟨Z15, Z16, Z17, Z18, Z19, Z20, Z21, Z22, Z23⟩ := at_T133 Z1.out Z5 Z13 Z14
      cases Z18
      replace Z19 := hc HB Z19
      replace Z20 := hc HB Z20
      replace Z21 := hc HB Z21
      have Z24 := ra Z23
      have Z25 := ra Z22
      clear Z23 Z22
      replace Z13 := eq_true Z13
      replace Z14 := eq_true Z14
      go_wp2_with (first | ((with_reducible refine gc 82 rfl ?_); refine gy (some 23) Tryz.func82 (laws_szProbeCell.calls _ _ _ _ _ _ _ _ _ (sc Z24) Z25.out Z11.out) ?_; rintro Z26 hb; replace HB := bs hb; clear hb))
      go_ret
      exact ⟨re, bq⟩
     ·have H' := ra H; clear H
      have Z13 : 0 ≤ (Z5 : Int) := od
      have Z14 : Z5 < (l0.length : Int) := od
      obtain ⟨Z15, Z16, Z17, Z18, Z19, Z20, Z21, Z22, Z23⟩ := at_T133 Z1.out Z5 Z13 Z14
      cases Z18
      replace Z19 := hc HB Z19
      replace Z20 := hc HB Z20
      replace Z21 := hc HB Z21
      have Z24 := ra Z23
      have Z25 := ra Z22
      clear Z23 Z22
      replace Z13 := eq_true Z13
      replace Z14 := eq_true Z14
      go_wp2_with (first | ((with_reducible refine gc 82 rfl ?_); refine gy (some 23) Tryz.func82 (laws_szProbeCell.calls _ _ _ _ _ _ _ _ _ (sc Z24) Z25.out Z11.out) ?_; rintro Z26 hb; replace HB := bs hb; clear hb))
      go_roundg Z7
      case measure => have := Z6.out; omega
      case rel => exact ⟨(Z10), (wrap64 (Z5 + 1)), rs, rs, H', ⟨by have := Z6.out; omega⟩, ⟨bq⟩⟩
    ·obtain rfl := Option.some.inj H
     go_wp2
     go_ret
     exact ⟨re, bq⟩
theorem laws_szProbeIndex.calls (k : Nat) (A0_0 : Option Addr) (c0_0 : Nat) (l0_0 : List (S133)) (a1 r : Int) (w : World) (hr0_0 : Kd.C k133 w A0_0 l0_0.length l0_0) (hc0_0 : l0_0.length ≤ c0_0) (h : laws_szProbeIndex.f k l0_0 a1 = some r) :
  Calls Tryz.prog 20 #[.agg #[.slice A0_0 l0_0.length c0_0], .int .i64 a1] w fun e w' => e = .returned (.int .i64 r) ∧ Below w.heap.size w w' := by
 have Z0 := Tryz.underlying51
 have Z1 := ra hr0_0
 have Z2 := ra hc0_0
 clear hr0_0 hc0_0
 have HB := ra (Below.refl w.heap.size w)
 have H := h; unfold laws_szProbeIndex.f at H
 clear h
 obtain ⟨Z3, Z4, H⟩ := bo H
 rcases td H with ⟨Z5, H⟩ | ⟨Z5, H⟩
 rotate_left
 rotate_left
 all_goals
  obtain rfl := Option.some.inj H
  go_enter Tryz.func20, Tryz.ntmps20
  go_wp2_with (first | ((with_reducible refine gd 2 rfl ?_); refine bd 2 #[.slice A0_0 l0_0.length c0_0] 51 ?_; intro Z6 Z7 HB Z8 Z9; obtain ⟨Z10, Z11⟩ := zc1 Z8) | ((with_reducible refine gc 57 rfl ?_); refine gy (some 8) Tryz.func57 (laws_szProbeCellS.calls _ _ _ _ _ _ _ (sc Z1) Z2.out Z4.out) ?_; rintro Z12 hb; replace Z8 := bb (bk Z8) hb; replace HB := bs hb; clear hb))
  go_ret
  exact ⟨re, bq⟩
theorem laws_markProbeBoxS.calls (k : Nat) (P0_ : Nat → Prop) (u9000_ : Value) (l0 : List (S75)) (a1 r1 : Int) (r2 : List (S75)) (w0 w : World) (hB : Below w0.heap.size w0 w) (ho0 : Kd.R k75 75 w w0.heap.size P0_ u9000_ l0) (h : laws_markProbeBoxS.f k l0 a1 = some (r1, r2)) :
  Calls Tryz.prog 66 #[u9000_, .int .i64 a1] w fun e w' => e = .returned (.int .i64 r1) ∧ Kd.R k75 75 w' w0.heap.size (fun k_ => (P0_ k_ ∨ w.heap.size ≤ k_)) u9000_ r2 ∧ Below w0.heap.size w0 w' ∧ Kept w w' (fun k_ => P0_ k_) := by
 have Z0 := ra (show Kd.R k75 75 w w0.heap.size (fun k_ => (P0_ k_ ∨ w.heap.size ≤ k_)) u9000_ l0 from Kd.R_mono ho0 (fun k_ hk => (.inl hk)))
 have HK := ra (Kept.refl w (fun k_ => P0_ k_))
 have Z1 := Aside0.mk hB.size
 have HB := ra hB; clear hB
 have H := h; unfold laws_markProbeBoxS.f at H
 clear h
 have H' := ra H; clear H
 go_enter Tryz.func66, Tryz.ntmps66
 go_wp2
 go_loopg [1, 5] k (fun kq v1 v5 w' => ∃ (x0_1 : List (S75)) (x1_1 : Int) (x5_1 : Int), v1 = .int .i64 x1_1 ∧ v5 = .int .i64 x5_1 ∧ Aside0 (laws_markProbeBoxS.l0 kq x0_1 x1_1 x5_1 = some (r1, r2)) ∧ Aside0 (kq ≤ k) ∧ Aside0 (Kd.R k75 75 w' w0.heap.size (fun k_ => (P0_ k_ ∨ w.heap.size ≤ k_)) u9000_ x0_1) ∧ Aside0 (Kept w w' (fun k_ => P0_ k_)) ∧ Aside0 (Below w0.heap.size w0 w'))
 case atStart => exact ⟨(l0), (a1), (0), rs, rs, H', ⟨Nat.le_refl _⟩, ⟨rq Z0⟩, ⟨by repeat (first | (with_reducible first | exact HK.out | apply Kept.alloc | apply Kept.drewN | apply Kept.drew) | exact HK.out)⟩, ⟨bq⟩⟩
 case round =>
  clear H'
  obtain ⟨Z2, Z3, Z4, rfl, rfl, HA, Z5, Z6, HK, HB⟩ := hrel
  cases gk with
  | zero => exact absurd HA.out (by simp [laws_markProbeBoxS.l0])
  | succ Z7 =>
   have H := HA.out
   clear HA
   simp only [laws_markProbeBoxS.l0] at H
   rcases td H with ⟨Z8, H⟩ | ⟨Z8, H⟩
   ·obtain ⟨Z9, H⟩ := tn H
    obtain ⟨Z10, hy_⟩ : ∃ y_ : List (S75), y_ = (Z2.set (Z4 : Int).toNat (⟨Z3, (rd_T75 Z2 Z4).f1, (rd_T75 Z2 Z4).f2, (rd_T75 Z2 Z4).f3, (rd_T75 Z2 Z4).f4, (rd_T75 Z2 Z4).f5⟩ : S75)) := ⟨_, rfl⟩
    replace H : ((some (Z10.set (Z4 : Int).toNat (⟨(rd_T75 Z10 Z4).f0, wrap64 (Z3 + 1), (rd_T75 Z10 Z4).f2, (rd_T75 Z10 Z4).f3, (rd_T75 Z10 Z4).f4, (rd_T75 Z10 Z4).f5⟩ : S75) : List (S75))).bind fun y1042 => ((some (y1042.set (Z4 : Int).toNat (⟨(rd_T75 y1042 Z4).f0, (rd_T75 y1042 Z4).f1, wrap64 ((wrap64 (Z3 + 1)) + 1), (rd_T75 y1042 Z4).f3, (rd_T75 y1042 Z4).f4, (rd_T75 y1042 Z4).f5⟩ : S75) : List (S75))).bind fun y1043 => ((some (y1043.set (Z4 : Int).toNat (⟨(rd_T75 y1043 Z4).f0, (rd_T75 y1043 Z4).f1, (rd_T75 y1043 Z4).f2, wrap64 ((wrap64 ((wrap64 (Z3 + 1)) + 1)) + 1), (rd_T75 y1043 Z4).f4, (rd_T75 y1043 Z4).f5⟩ : S75) : List (S75))).bind fun y1044 => ((some (y1044.set (Z4 : Int).toNat (⟨(rd_T75 y1044 Z4).f0, (rd_T75 y1044 Z4).f1, (rd_T75 y1044 Z4).f2, (rd_T75 y1044 Z4).f3, wrap64 ((wrap64 ((wrap64 ((wrap64 (Z3 + 1)) + 1)) + 1)) + 1), (rd_T75 y1044 Z4).f5⟩ : S75) : List (S75))).bind fun y1045 => (laws_markProbeBoxS.l0 Z7 (y1045.set (Z4 : Int).toNat (⟨(rd_T75 y1045 Z4).f0, (rd_T75 y1045 Z4).f1, (rd_T75 y1045 Z4).f2, (rd_T75 y1045 Z4).f3, (rd_T75 y1045 Z4).f4, wrap64 ((wrap64 ((wrap64 ((wrap64 ((wrap64 (Z3 + 1)) + 1)) + 1)) + 1)) + 1)⟩ : S75)) (wrap64 ((wrap64 ((wrap64 ((wrap64 ((wrap64 ((wrap64 (Z3 + 1)) + 1)) + 1)) + 1)) + 1)) + 1)) (wrap64 (Z4 + 1))))))) = some (r1, r2) := yh
    have Z11 := ra hy_
    clear hy_
    obtain ⟨Z12, hy_⟩ : ∃ y_ : List (S75), y_ = (Z10.set (Z4 : Int).toNat (⟨(rd_T75 Z10 Z4).f0, wrap64 (Z3 + 1), (rd_T75 Z10 Z4).f2, (rd_T75 Z10 Z4).f3, (rd_T75 Z10 Z4).f4, (rd_T75 Z10 Z4).f5⟩ : S75)) := ⟨_, rfl⟩
    replace H : ((some (Z12.set (Z4 : Int).toNat (⟨(rd_T75 Z12 Z4).f0, (rd_T75 Z12 Z4).f1, wrap64 ((wrap64 (Z3 + 1)) + 1), (rd_T75 Z12 Z4).f3, (rd_T75 Z12 Z4).f4, (rd_T75 Z12 Z4).f5⟩ : S75) : List (S75))).bind fun y1043 => ((some (y1043.set (Z4 : Int).toNat (⟨(rd_T75 y1043 Z4).f0, (rd_T75 y1043 Z4).f1, (rd_T75 y1043 Z4).f2, wrap64 ((wrap64 ((wrap64 (Z3 + 1)) + 1)) + 1), (rd_T75 y1043 Z4).f4, (rd_T75 y1043 Z4).f5⟩ : S75) : List (S75))).bind fun y1044 => ((some (y1044.set (Z4 : Int).toNat (⟨(rd_T75 y1044 Z4).f0, (rd_T75 y1044 Z4).f1, (rd_T75 y1044 Z4).f2, (rd_T75 y1044 Z4).f3, wrap64 ((wrap64 ((wrap64 ((wrap64 (Z3 + 1)) + 1)) + 1)) + 1), (rd_T75 y1044 Z4).f5⟩ : S75) : List (S75))).bind fun y1045 => (laws_markProbeBoxS.l0 Z7 (y1045.set (Z4 : Int).toNat (⟨(rd_T75 y1045 Z4).f0, (rd_T75 y1045 Z4).f1, (rd_T75 y1045 Z4).f2, (rd_T75 y1045 Z4).f3, (rd_T75 y1045 Z4).f4, wrap64 ((wrap64 ((wrap64 ((wrap64 ((wrap64 (Z3 + 1)) + 1)) + 1)) + 1)) + 1)⟩ : S75)) (wrap64 ((wrap64 ((wrap64 ((wrap64 ((wrap64 ((wrap64 (Z3 + 1)) + 1)) + 1)) + 1)) + 1)) + 1)) (wrap64 (Z4 + 1)))))) = some (r1, r2) := yh
    have Z13 := ra hy_
    clear hy_
    obtain ⟨Z14, hy_⟩ : ∃ y_ : List (S75), y_ = (Z12.set (Z4 : Int).toNat (⟨(rd_T75 Z12 Z4).f0, (rd_T75 Z12 Z4).f1, wrap64 ((wrap64 (Z3 + 1)) + 1), (rd_T75 Z12 Z4).f3, (rd_T75 Z12 Z4).f4, (rd_T75 Z12 Z4).f5⟩ : S75)) := ⟨_, rfl⟩
    replace H : ((some (Z14.set (Z4 : Int).toNat (⟨(rd_T75 Z14 Z4).f0, (rd_T75 Z14 Z4).f1, (rd_T75 Z14 Z4).f2, wrap64 ((wrap64 ((wrap64 (Z3 + 1)) + 1)) + 1), (rd_T75 Z14 Z4).f4, (rd_T75 Z14 Z4).f5⟩ : S75) : List (S75))).bind fun y1044 => ((some (y1044.set (Z4 : Int).toNat (⟨(rd_T75 y1044 Z4).f0, (rd_T75 y1044 Z4).f1, (rd_T75 y1044 Z4).f2, (rd_T75 y1044 Z4).f3, wrap64 ((wrap64 ((wrap64 ((wrap64 (Z3 + 1)) + 1)) + 1)) + 1), (rd_T75 y1044 Z4).f5⟩ : S75) : List (S75))).bind fun y1045 => (laws_markProbeBoxS.l0 Z7 (y1045.set (Z4 : Int).toNat (⟨(rd_T75 y1045 Z4).f0, (rd_T75 y1045 Z4).f1, (rd_T75 y1045 Z4).f2, (rd_T75 y1045 Z4).f3, (rd_T75 y1045 Z4).f4, wrap64 ((wrap64 ((wrap64 ((wrap64 ((wrap64 (Z3 + 1)) + 1)) + 1)) + 1)) + 1)⟩ : S75)) (wrap64 ((wrap64 ((wrap64 ((wrap64 ((wrap64 ((wrap64 (Z3 + 1)) + 1)) + 1)) + 1)) + 1)) + 1)) (wrap64 (Z4 + 1))))) = some (r1, r2) := yh
    have Z15 := ra hy_
    clear hy_
    obtain ⟨Z16, hy_⟩ : ∃ y_ : List (S75), y_ = (Z14.set (Z4 : Int).toNat (⟨(rd_T75 Z14 Z4).f0, (rd_T75 Z14 Z4).f1, (rd_T75 Z14 Z4).f2, wrap64 ((wrap64 ((wrap64 (Z3 + 1)) + 1)) + 1), (rd_T75 Z14 Z4).f4, (rd_T75 Z14 Z4).f5⟩ : S75)) := ⟨_, rfl⟩
    replace H : ((some (Z16.set (Z4 : Int).toNat (⟨(rd_T75 Z16 Z4).f0, (rd_T75 Z16 Z4).f1, (rd_T75 Z16 Z4).f2, (rd_T75 Z16 Z4).f3, wrap64 ((wrap64 ((wrap64 ((wrap64 (Z3 + 1)) + 1)) + 1)) + 1), (rd_T75 Z16 Z4).f5⟩ : S75) : List (S75))).bind fun y1045 => (laws_markProbeBoxS.l0 Z7 (y1045.set (Z4 : Int).toNat (⟨(rd_T75 y1045 Z4).f0, (rd_T75 y1045 Z4).f1, (rd_T75 y1045 Z4).f2, (rd_T75 y1045 Z4).f3, (rd_T75 y1045 Z4).f4, wrap64 ((wrap64 ((wrap64 ((wrap64 ((wrap64 (Z3 + 1)) + 1)) + 1)) + 1)) + 1)⟩ : S75)) (wrap64 ((wrap64 ((wrap64 ((wrap64 ((wrap64 ((wrap64 (Z3 + 1)) + 1)) + 1)) + 1)) + 1)) + 1)) (wrap64 (Z4 + 1)))) = some (r1, r2) := yh
    have Z17 := ra hy_
    clear hy_
    obtain ⟨Z18, hy_⟩ : ∃ y_ : List (S75), y_ = (Z16.set (Z4 : Int).toNat (⟨(rd_T75 Z16 Z4).f0, (rd_T75 Z16 Z4).f1, (rd_T75 Z16 Z4).f2, (rd_T75 Z16 Z4).f3, wrap64 ((wrap64 ((wrap64 ((wrap64 (Z3 + 1)) + 1)) + 1)) + 1), (rd_T75 Z16 Z4).f5⟩ : S75)) := ⟨_, rfl⟩
    replace H : (laws_markProbeBoxS.l0 Z7 (Z18.set (Z4 : Int).toNat (⟨(rd_T75 Z18 Z4).f0, (rd_T75 Z18 Z4).f1, (rd_T75 Z18 Z4).f2, (rd_T75 Z18 Z4).f3, (rd_T75 Z18 Z4).f4, wrap64 ((wrap64 ((wrap64 ((wrap64 ((wrap64 (Z3 + 1)) + 1)) + 1)) + 1)) + 1)⟩ : S75)) (wrap64 ((wrap64 ((wrap64 ((wrap64 ((wrap64 ((wrap64 (Z3 + 1)) + 1)) + 1)) + 1)) + 1)) + 1)) (wrap64 (Z4 + 1))) = some (r1, r2) := yh
    have Z19 := ra hy_
    clear hy_
    obtain ⟨Z20, hy_⟩ : ∃ y_ : List (S75), y_ = (Z18.set (Z4 : Int).toNat (⟨(rd_T75 Z18 Z4).f0, (rd_T75 Z18 Z4).f1, (rd_T75 Z18 Z4).f2, (rd_T75 Z18 Z4).f3, (rd_T75 Z18 Z4).f4, wrap64 ((wrap64 ((wrap64 ((wrap64 ((wrap64 (Z3 + 1)) + 1)) + 1)) + 1)) + 1)⟩ : S75)) := ⟨_, rfl⟩
    replace H : (laws_markProbeBoxS.l0 Z7 Z20 (wrap64 ((wrap64 ((wrap64 ((wrap64 ((wrap64 ((wrap64 (Z3 + 1)) + 1)) + 1)) + 1)) + 1)) + 1)) (wrap64 (Z4 + 1))) = some (r1, r2) := yh
    have Z21 := ra hy_
    clear hy_
    have H' := ra H; clear H
    obtain ⟨Z22, Z23, Z24⟩ := Kd.R_slice Z6.out
    subst Z24
    have Z25 : 0 ≤ (Z4 : Int) := od
    have Z26 : (Z4 : Int) < ((Z2.length : Int) : Int) := od
    obtain ⟨Z27, Z28, Z29, Z30, Z31, Z32, Z33⟩ := Kd.R_form Z6.out (by omega)
    (first | cases Z29 | (injection Z29 with ea_ en_ ec_; (first | subst ea_ | (injection ea_ with ea_; subst ea_)); subst ec_; clear en_))
    have Z34 := ra Z30
    have Z35 := ra Z33
    clear Z30 Z31 Z33
    have Z36 := ra (show (P0_ Z27 ∨ w.heap.size ≤ Z27) from (Z6.out.1 _ rfl))
    obtain ⟨Z37, Z38, Z39, Z40, Z41⟩ := Kd.R_elem Z6.out z75 (Z4 : Int) Z25 Z26
    obtain rfl := k75_openM Z39
    have Z42 : wr.cell? ⟨Z27, (Z4 : Int).toNat * 6, none⟩ = some (.int .i64 ((rd_T75 Z2 Z4).f0)) := Z40 0 _ rfl
    have Z43 : wr.cell? ⟨Z27, (Z4 : Int).toNat * 6 + 1, none⟩ = some (.int .i64 ((rd_T75 Z2 Z4).f1)) := Z40 1 _ rfl
    have Z44 : wr.cell? ⟨Z27, (Z4 : Int).toNat * 6 + 2, none⟩ = some (.int .i64 ((rd_T75 Z2 Z4).f2)) := Z40 2 _ rfl
    have Z45 : wr.cell? ⟨Z27, (Z4 : Int).toNat * 6 + 3, none⟩ = some (.int .i64 ((rd_T75 Z2 Z4).f3)) := Z40 3 _ rfl
    have Z46 : wr.cell? ⟨Z27, (Z4 : Int).toNat * 6 + 4, none⟩ = some (.int .i64 ((rd_T75 Z2 Z4).f4)) := Z40 4 _ rfl
    have Z47 : wr.cell? ⟨Z27, (Z4 : Int).toNat * 6 + 5, none⟩ = some (.int .i64 ((rd_T75 Z2 Z4).f5)) := Z40 5 _ rfl
    have Z48 : wr.frozen? ⟨Z27, (Z4 : Int).toNat * 6, none⟩ = false := Z41 0
    have Z49 : wr.frozen? ⟨Z27, (Z4 : Int).toNat * 6 + 1, none⟩ = false := Z41 1
    have Z50 : wr.frozen? ⟨Z27, (Z4 : Int).toNat * 6 + 2, none⟩ = false := Z41 2
    have Z51 : wr.frozen? ⟨Z27, (Z4 : Int).toNat * 6 + 3, none⟩ = false := Z41 3
    have Z52 : wr.frozen? ⟨Z27, (Z4 : Int).toNat * 6 + 4, none⟩ = false := Z41 4
    have Z53 : wr.frozen? ⟨Z27, (Z4 : Int).toNat * 6 + 5, none⟩ = false := Z41 5
    clear Z38 Z40 Z41 Z39
    replace Z25 := eq_true Z25
    replace Z26 := eq_true Z26
    have Z54 := ra (show Kd.R k75 75 wr w0.heap.size (fun k_ => (P0_ k_ ∨ w.heap.size ≤ k_)) (.slice (some ⟨Z27, 0, none⟩) Z2.length Z23) Z2 from (rq Z6))
    obtain ⟨Z55, Z56, Z57, Z58, Z59⟩ := Kd.R_elem Z54.out z75 (Z4 : Int) (od) (by have h_ : (Z4 : Int) < ((Z2.length : Int) : Int) := od; first | exact h_ | (have e_ := (Kd.R_reads' Z6.out).1; omega) | simpa using h_)
    obtain rfl := k75_openM Z57
    have Z60 := Kd.R_seg Z54.out (Z4 : Int) (od) (by have h_ : (Z4 : Int) < ((Z2.length : Int) : Int) := od; first | exact h_ | (have e_ := (Kd.R_reads' Z6.out).1; omega) | simpa using h_) (seg := [.int .i64 Z3]) (j := 0) Z56 Z58 (show 1 ≤ 6 from by decide) (x' := (⟨Z3, (rd_T75 Z2 Z4).f1, (rd_T75 Z2 Z4).f2, (rd_T75 Z2 Z4).f3, (rd_T75 Z2 Z4).f4, (rd_T75 Z2 Z4).f5⟩ : S75)) (k75_mkM _ _ _ (⟨Z3, (rd_T75 Z2 Z4).f1, (rd_T75 Z2 Z4).f2, (rd_T75 Z2 Z4).f3, (rd_T75 Z2 Z4).f4, (rd_T75 Z2 Z4).f5⟩ : S75) ) (fun _ hk => hk)
    have Z61 := Z58 0 _ rfl
    (try simp only [show (k75).sz = 6 from rfl, Nat.mul_one, Nat.add_zero] at Z61)
    have Z62 := Z59 0
    (try simp only [show (k75).sz = 6 from rfl, Nat.mul_one, Nat.add_zero] at Z62)
    clear Z56 Z58 Z59 Z57
    go_wp2_with (first | ((with_reducible refine gate_store (t := 3) (p := 16) rfl ?_); refine store_event (t := 3) (p := 16) (v := ?vo_w13) (w1 := (wr.setCell ⟨Z27, (Z4 : Int).toNat * 6, none⟩ (.int .i64 Z3))) ?hg ?ho ?hn ?hr ?_; (case ho => rfl); (case hg => rfl); (case hn => rfl); (case hr => first | (go_simp; done) | (go_simp; rfl)); intro Z63 hw; have hg : wr.grownBy Z63 (some Z27) := (by rw [hw]; exact Z60.2); have hp_ : Kd.R k75 75 Z63 w0.heap.size (fun k_ => (P0_ k_ ∨ w.heap.size ≤ k_)) (.slice (some ⟨Z27, 0, none⟩) Z2.length Z23) Z10 := (by rw [hw, Z11.out]; exact Z60.1); clear Z60; replace HB := ra ((by rw [hw]; exact below_set (HB.out) Z34.out : Below w0.heap.size w0 Z63)); replace HK := ra (Kept.of_grown (S := (fun k_ => P0_ k_)) hg (by repeat (first | (with_reducible first | exact HK.out | apply Kept.alloc | apply Kept.drewN | apply Kept.drew) | exact HK.out)) (fun k_ e_ => (Z6.out.1 k_ e_))); replace Z6 := ra (hp_); clear hg hw hp_; have Z64 : 0 ≤ (Z4 : Int) := od; have Z65 : (Z4 : Int) < ((Z2.length : Int) : Int) := od; obtain ⟨Z66, Z67, Z68, Z69, Z70⟩ := Kd.R_elem Z6.out z75 (Z4 : Int) Z64 Z65; obtain rfl := k75_openM Z68; have Z71 : Z63.cell? ⟨Z27, (Z4 : Int).toNat * 6, none⟩ = some (.int .i64 ((rd_T75 Z10 Z4).f0)) := Z69 0 _ rfl; have Z72 : Z63.cell? ⟨Z27, (Z4 : Int).toNat * 6 + 1, none⟩ = some (.int .i64 ((rd_T75 Z10 Z4).f1)) := Z69 1 _ rfl; have Z73 : Z63.cell? ⟨Z27, (Z4 : Int).toNat * 6 + 2, none⟩ = some (.int .i64 ((rd_T75 Z10 Z4).f2)) := Z69 2 _ rfl; have Z74 : Z63.cell? ⟨Z27, (Z4 : Int).toNat * 6 + 3, none⟩ = some (.int .i64 ((rd_T75 Z10 Z4).f3)) := Z69 3 _ rfl; have Z75 : Z63.cell? ⟨Z27, (Z4 : Int).toNat * 6 + 4, none⟩ = some (.int .i64 ((rd_T75 Z10 Z4).f4)) := Z69 4 _ rfl; have Z76 : Z63.cell? ⟨Z27, (Z4 : Int).toNat * 6 + 5, none⟩ = some (.int .i64 ((rd_T75 Z10 Z4).f5)) := Z69 5 _ rfl; have Z77 : Z63.frozen? ⟨Z27, (Z4 : Int).toNat * 6, none⟩ = false := Z70 0; have Z78 : Z63.frozen? ⟨Z27, (Z4 : Int).toNat * 6 + 1, none⟩ = false := Z70 1; have Z79 : Z63.frozen? ⟨Z27, (Z4 : Int).toNat * 6 + 2, none⟩ = false := Z70 2; have Z80 : Z63.frozen? ⟨Z27, (Z4 : Int).toNat * 6 + 3, none⟩ = false := Z70 3; have Z81 : Z63.frozen? ⟨Z27, (Z4 : Int).toNat * 6 + 4, none⟩ = false := Z70 4; have Z82 : Z63.frozen? ⟨Z27, (Z4 : Int).toNat * 6 + 5, none⟩ = false := Z70 5; clear Z67 Z69 Z70 Z68; replace Z64 := eq_true Z64; replace Z65 := eq_true Z65; have Z83 := ra (show Kd.R k75 75 Z63 w0.heap.size (fun k_ => (P0_ k_ ∨ w.heap.size ≤ k_)) (.slice (some ⟨Z27, 0, none⟩) Z2.length Z23) Z10 from (rq Z6)); obtain ⟨Z84, Z85, Z86, Z87, Z88⟩ := Kd.R_elem Z83.out z75 (Z4 : Int) (od) (by have h_ : (Z4 : Int) < ((Z2.length : Int) : Int) := od; first | exact h_ | (have e_ := (Kd.R_reads' Z6.out).1; omega) | simpa using h_); obtain rfl := k75_openM Z86; have Z89 := Kd.R_seg Z83.out (Z4 : Int) (od) (by have h_ : (Z4 : Int) < ((Z2.length : Int) : Int) := od; first | exact h_ | (have e_ := (Kd.R_reads' Z6.out).1; omega) | simpa using h_) (seg := [.int .i64 (wrap64 (Z3 + 1))]) (j := 1) Z85 Z87 (show 2 ≤ 6 from by decide) (x' := (⟨(rd_T75 Z10 Z4).f0, wrap64 (Z3 + 1), (rd_T75 Z10 Z4).f2, (rd_T75 Z10 Z4).f3, (rd_T75 Z10 Z4).f4, (rd_T75 Z10 Z4).f5⟩ : S75)) (k75_mkM _ _ _ (⟨(rd_T75 Z10 Z4).f0, wrap64 (Z3 + 1), (rd_T75 Z10 Z4).f2, (rd_T75 Z10 Z4).f3, (rd_T75 Z10 Z4).f4, (rd_T75 Z10 Z4).f5⟩ : S75) ) (fun _ hk => hk); have Z90 := Z87 1 _ rfl; (try simp only [show (k75).sz = 6 from rfl, Nat.mul_one, Nat.add_zero] at Z90); have Z91 := Z88 1; (try simp only [show (k75).sz = 6 from rfl, Nat.mul_one, Nat.add_zero] at Z91); clear Z85 Z87 Z88 Z86) | ((with_reducible refine gate_store (t := 3) (p := 23) rfl ?_); refine store_event (t := 3) (p := 23) (v := ?vo_w15) (w1 := (Z63.setCell ⟨Z27, (Z4 : Int).toNat * 6 + 1, none⟩ (.int .i64 (wrap64 (Z3 + 1))))) ?hg ?ho ?hn ?hr ?_; (case ho => rfl); (case hg => rfl); (case hn => rfl); (case hr => first | (go_simp; done) | (go_simp; rfl)); intro Z92 hw; have hg : Z63.grownBy Z92 (some Z27) := (by rw [hw]; exact Z89.2); have hp_ : Kd.R k75 75 Z92 w0.heap.size (fun k_ => (P0_ k_ ∨ w.heap.size ≤ k_)) (.slice (some ⟨Z27, 0, none⟩) Z2.length Z23) Z12 := (by rw [hw, Z13.out]; exact Z89.1); clear Z89; replace HB := ra ((by rw [hw]; exact below_set (HB.out) Z34.out : Below w0.heap.size w0 Z92)); replace HK := ra (Kept.of_grown (S := (fun k_ => P0_ k_)) hg (by repeat (first | (with_reducible first | exact HK.out | apply Kept.alloc | apply Kept.drewN | apply Kept.drew) | exact HK.out)) (fun k_ e_ => (Z6.out.1 k_ e_))); replace Z6 := ra (hp_); clear hg hw hp_; have Z93 : 0 ≤ (Z4 : Int) := od; have Z94 : (Z4 : Int) < ((Z2.length : Int) : Int) := od; obtain ⟨Z95, Z96, Z97, Z98, Z99⟩ := Kd.R_elem Z6.out z75 (Z4 : Int) Z93 Z94; obtain rfl := k75_openM Z97; have Z100 : Z92.cell? ⟨Z27, (Z4 : Int).toNat * 6, none⟩ = some (.int .i64 ((rd_T75 Z12 Z4).f0)) := Z98 0 _ rfl; have Z101 : Z92.cell? ⟨Z27, (Z4 : Int).toNat * 6 + 1, none⟩ = some (.int .i64 ((rd_T75 Z12 Z4).f1)) := Z98 1 _ rfl; have Z102 : Z92.cell? ⟨Z27, (Z4 : Int).toNat * 6 + 2, none⟩ = some (.int .i64 ((rd_T75 Z12 Z4).f2)) := Z98 2 _ rfl; have Z103 : Z92.cell? ⟨Z27, (Z4 : Int).toNat * 6 + 3, none⟩ = some (.int .i64 ((rd_T75 Z12 Z4).f3)) := Z98 3 _ rfl; have Z104 : Z92.cell? ⟨Z27, (Z4 : Int).toNat * 6 + 4, none⟩ = some (.int .i64 ((rd_T75 Z12 Z4).f4)) := Z98 4 _ rfl; have Z105 : Z92.cell? ⟨Z27, (Z4 : Int).toNat * 6 + 5, none⟩ = some (.int .i64 ((rd_T75 Z12 Z4).f5)) := Z98 5 _ rfl; have Z106 : Z92.frozen? ⟨Z27, (Z4 : Int).toNat * 6, none⟩ = false := Z99 0; have Z107 : Z92.frozen? ⟨Z27, (Z4 : Int).toNat * 6 + 1, none⟩ = false := Z99 1; have Z108 : Z92.frozen? ⟨Z27, (Z4 : Int).toNat * 6 + 2, none⟩ = false := Z99 2; have Z109 : Z92.frozen? ⟨Z27, (Z4 : Int).toNat * 6 + 3, none⟩ = false := Z99 3; have Z110 : Z92.frozen? ⟨Z27, (Z4 : Int).toNat * 6 + 4, none⟩ = false := Z99 4; have Z111 : Z92.frozen? ⟨Z27, (Z4 : Int).toNat * 6 + 5, none⟩ = false := Z99 5; clear Z96 Z98 Z99 Z97; replace Z93 := eq_true Z93; replace Z94 := eq_true Z94; have Z112 := ra (show Kd.R k75 75 Z92 w0.heap.size (fun k_ => (P0_ k_ ∨ w.heap.size ≤ k_)) (.slice (some ⟨Z27, 0, none⟩) Z2.length Z23) Z12 from (rq Z6)); obtain ⟨Z113, Z114, Z115, Z116, Z117⟩ := Kd.R_elem Z112.out z75 (Z4 : Int) (od) (by have h_ : (Z4 : Int) < ((Z2.length : Int) : Int) := od; first | exact h_ | (have e_ := (Kd.R_reads' Z6.out).1; omega) | simpa using h_); obtain rfl := k75_openM Z115; have Z118 := Kd.R_seg Z112.out (Z4 : Int) (od) (by have h_ : (Z4 : Int) < ((Z2.length : Int) : Int) := od; first | exact h_ | (have e_ := (Kd.R_reads' Z6.out).1; omega) | simpa using h_) (seg := [.int .i64 (wrap64 ((wrap64 (Z3 + 1)) + 1))]) (j := 2) Z114 Z116 (show 3 ≤ 6 from by decide) (x' := (⟨(rd_T75 Z12 Z4).f0, (rd_T75 Z12 Z4).f1, wrap64 ((wrap64 (Z3 + 1)) + 1), (rd_T75 Z12 Z4).f3, (rd_T75 Z12 Z4).f4, (rd_T75 Z12 Z4).f5⟩ : S75)) (k75_mkM _ _ _ (⟨(rd_T75 Z12 Z4).f0, (rd_T75 Z12 Z4).f1, wrap64 ((wrap64 (Z3 + 1)) + 1), (rd_T75 Z12 Z4).f3, (rd_T75 Z12 Z4).f4, (rd_T75 Z12 Z4).f5⟩ : S75) ) (fun _ hk => hk); have Z119 := Z116 2 _ rfl; (try simp only [show (k75).sz = 6 from rfl, Nat.mul_one, Nat.add_zero] at Z119); have Z120 := Z117 2; (try simp only [show (k75).sz = 6 from rfl, Nat.mul_one, Nat.add_zero] at Z120); clear Z114 Z116 Z117 Z115) | ((with_reducible refine gate_store (t := 3) (p := 30) rfl ?_); refine store_event (t := 3) (p := 30) (v := ?vo_w17) (w1 := (Z92.setCell ⟨Z27, (Z4 : Int).toNat * 6 + 2, none⟩ (.int .i64 (wrap64 ((wrap64 (Z3 + 1)) + 1))))) ?hg ?ho ?hn ?hr ?_; (case ho => rfl); (case hg => rfl); (case hn => rfl); (case hr => first | (go_simp; done) | (go_simp; rfl)); intro Z121 hw; have hg : Z92.grownBy Z121 (some Z27) := (by rw [hw]; exact Z118.2); have hp_ : Kd.R k75 75 Z121 w0.heap.size (fun k_ => (P0_ k_ ∨ w.heap.size ≤ k_)) (.slice (some ⟨Z27, 0, none⟩) Z2.length Z23) Z14 := (by rw [hw, Z15.out]; exact Z118.1); clear Z118; replace HB := ra ((by rw [hw]; exact below_set (HB.out) Z34.out : Below w0.heap.size w0 Z121)); replace HK := ra (Kept.of_grown (S := (fun k_ => P0_ k_)) hg (by repeat (first | (with_reducible first | exact HK.out | apply Kept.alloc | apply Kept.drewN | apply Kept.drew) | exact HK.out)) (fun k_ e_ => (Z6.out.1 k_ e_))); replace Z6 := ra (hp_); clear hg hw hp_; have Z122 : 0 ≤ (Z4 : Int) := od; have Z123 : (Z4 : Int) < ((Z2.length : Int) : Int) := od; obtain ⟨Z124, Z125, Z126, Z127, Z128⟩ := Kd.R_elem Z6.out z75 (Z4 : Int) Z122 Z123; obtain rfl := k75_openM Z126; have Z129 : Z121.cell? ⟨Z27, (Z4 : Int).toNat * 6, none⟩ = some (.int .i64 ((rd_T75 Z14 Z4).f0)) := Z127 0 _ rfl; have Z130 : Z121.cell? ⟨Z27, (Z4 : Int).toNat * 6 + 1, none⟩ = some (.int .i64 ((rd_T75 Z14 Z4).f1)) := Z127 1 _ rfl; have Z131 : Z121.cell? ⟨Z27, (Z4 : Int).toNat * 6 + 2, none⟩ = some (.int .i64 ((rd_T75 Z14 Z4).f2)) := Z127 2 _ rfl; have Z132 : Z121.cell? ⟨Z27, (Z4 : Int).toNat * 6 + 3, none⟩ = some (.int .i64 ((rd_T75 Z14 Z4).f3)) := Z127 3 _ rfl; have Z133 : Z121.cell? ⟨Z27, (Z4 : Int).toNat * 6 + 4, none⟩ = some (.int .i64 ((rd_T75 Z14 Z4).f4)) := Z127 4 _ rfl; have Z134 : Z121.cell? ⟨Z27, (Z4 : Int).toNat * 6 + 5, none⟩ = some (.int .i64 ((rd_T75 Z14 Z4).f5)) := Z127 5 _ rfl; have Z135 : Z121.frozen? ⟨Z27, (Z4 : Int).toNat * 6, none⟩ = false := Z128 0; have Z136 : Z121.frozen? ⟨Z27, (Z4 : Int).toNat * 6 + 1, none⟩ = false := Z128 1; have Z137 : Z121.frozen? ⟨Z27, (Z4 : Int).toNat * 6 + 2, none⟩ = false := Z128 2; have Z138 : Z121.frozen? ⟨Z27, (Z4 : Int).toNat * 6 + 3, none⟩ = false := Z128 3; have Z139 : Z121.frozen? ⟨Z27, (Z4 : Int).toNat * 6 + 4, none⟩ = false := Z128 4; have Z140 : Z121.frozen? ⟨Z27, (Z4 : Int).toNat * 6 + 5, none⟩ = false := Z128 5; clear Z125 Z127 Z128 Z126; replace Z122 := eq_true Z122; replace Z123 := eq_true Z123; have Z141 := ra (show Kd.R k75 75 Z121 w0.heap.size (fun k_ => (P0_ k_ ∨ w.heap.size ≤ k_)) (.slice (some ⟨Z27, 0, none⟩) Z2.length Z23) Z14 from (rq Z6)); obtain ⟨Z142, Z143, Z144, Z145, Z146⟩ := Kd.R_elem Z141.out z75 (Z4 : Int) (od) (by have h_ : (Z4 : Int) < ((Z2.length : Int) : Int) := od; first | exact h_ | (have e_ := (Kd.R_reads' Z6.out).1; omega) | simpa using h_); obtain rfl := k75_openM Z144; have Z147 := Kd.R_seg Z141.out (Z4 : Int) (od) (by have h_ : (Z4 : Int) < ((Z2.length : Int) : Int) := od; first | exact h_ | (have e_ := (Kd.R_reads' Z6.out).1; omega) | simpa using h_) (seg := [.int .i64 (wrap64 ((wrap64 ((wrap64 (Z3 + 1)) + 1)) + 1))]) (j := 3) Z143 Z145 (show 4 ≤ 6 from by decide) (x' := (⟨(rd_T75 Z14 Z4).f0, (rd_T75 Z14 Z4).f1, (rd_T75 Z14 Z4).f2, wrap64 ((wrap64 ((wrap64 (Z3 + 1)) + 1)) + 1), (rd_T75 Z14 Z4).f4, (rd_T75 Z14 Z4).f5⟩ : S75)) (k75_mkM _ _ _ (⟨(rd_T75 Z14 Z4).f0, (rd_T75 Z14 Z4).f1, (rd_T75 Z14 Z4).f2, wrap64 ((wrap64 ((wrap64 (Z3 + 1)) + 1)) + 1), (rd_T75 Z14 Z4).f4, (rd_T75 Z14 Z4).f5⟩ : S75) ) (fun _ hk => hk); have Z148 := Z145 3 _ rfl; (try simp only [show (k75).sz = 6 from rfl, Nat.mul_one, Nat.add_zero] at Z148); have Z149 := Z146 3; (try simp only [show (k75).sz = 6 from rfl, Nat.mul_one, Nat.add_zero] at Z149); clear Z143 Z145 Z146 Z144) | ((with_reducible refine gate_store (t := 3) (p := 37) rfl ?_); refine store_event (t := 3) (p := 37) (v := ?vo_w19) (w1 := (Z121.setCell ⟨Z27, (Z4 : Int).toNat * 6 + 3, none⟩ (.int .i64 (wrap64 ((wrap64 ((wrap64 (Z3 + 1)) + 1)) + 1))))) ?hg ?ho ?hn ?hr ?_; (case ho => rfl); (case hg => rfl); (case hn => rfl); (case hr => first | (go_simp; done) | (go_simp; rfl)); intro Z150 hw; have hg : Z121.grownBy Z150 (some Z27) := (by rw [hw]; exact Z147.2); have hp_ : Kd.R k75 75 Z150 w0.heap.size (fun k_ => (P0_ k_ ∨ w.heap.size ≤ k_)) (.slice (some ⟨Z27, 0, none⟩) Z2.length Z23) Z16 := (by rw [hw, Z17.out]; exact Z147.1); clear Z147; replace HB := ra ((by rw [hw]; exact below_set (HB.out) Z34.out : Below w0.heap.size w0 Z150)); replace HK := ra (Kept.of_grown (S := (fun k_ => P0_ k_)) hg (by repeat (first | (with_reducible first | exact HK.out | apply Kept.alloc | apply Kept.drewN | apply Kept.drew) | exact HK.out)) (fun k_ e_ => (Z6.out.1 k_ e_))); replace Z6 := ra (hp_); clear hg hw hp_; have Z151 : 0 ≤ (Z4 : Int) := od; have Z152 : (Z4 : Int) < ((Z2.length : Int) : Int) := od; obtain ⟨Z153, Z154, Z155, Z156, Z157⟩ := Kd.R_elem Z6.out z75 (Z4 : Int) Z151 Z152; obtain rfl := k75_openM Z155; have Z158 : Z150.cell? ⟨Z27, (Z4 : Int).toNat * 6, none⟩ = some (.int .i64 ((rd_T75 Z16 Z4).f0)) := Z156 0 _ rfl; have Z159 : Z150.cell? ⟨Z27, (Z4 : Int).toNat * 6 + 1, none⟩ = some (.int .i64 ((rd_T75 Z16 Z4).f1)) := Z156 1 _ rfl; have Z160 : Z150.cell? ⟨Z27, (Z4 : Int).toNat * 6 + 2, none⟩ = some (.int .i64 ((rd_T75 Z16 Z4).f2)) := Z156 2 _ rfl; have Z161 : Z150.cell? ⟨Z27, (Z4 : Int).toNat * 6 + 3, none⟩ = some (.int .i64 ((rd_T75 Z16 Z4).f3)) := Z156 3 _ rfl; have Z162 : Z150.cell? ⟨Z27, (Z4 : Int).toNat * 6 + 4, none⟩ = some (.int .i64 ((rd_T75 Z16 Z4).f4)) := Z156 4 _ rfl; have Z163 : Z150.cell? ⟨Z27, (Z4 : Int).toNat * 6 + 5, none⟩ = some (.int .i64 ((rd_T75 Z16 Z4).f5)) := Z156 5 _ rfl; have Z164 : Z150.frozen? ⟨Z27, (Z4 : Int).toNat * 6, none⟩ = false := Z157 0; have Z165 : Z150.frozen? ⟨Z27, (Z4 : Int).toNat * 6 + 1, none⟩ = false := Z157 1; have Z166 : Z150.frozen? ⟨Z27, (Z4 : Int).toNat * 6 + 2, none⟩ = false := Z157 2; have Z167 : Z150.frozen? ⟨Z27, (Z4 : Int).toNat * 6 + 3, none⟩ = false := Z157 3; have Z168 : Z150.frozen? ⟨Z27, (Z4 : Int).toNat * 6 + 4, none⟩ = false := Z157 4; have Z169 : Z150.frozen? ⟨Z27, (Z4 : Int).toNat * 6 + 5, none⟩ = false := Z157 5; clear Z154 Z156 Z157 Z155; replace Z151 := eq_true Z151; replace Z152 := eq_true Z152; have Z170 := ra (show Kd.R k75 75 Z150 w0.heap.size (fun k_ => (P0_ k_ ∨ w.heap.size ≤ k_)) (.slice (some ⟨Z27, 0, none⟩) Z2.length Z23) Z16 from (rq Z6)); obtain ⟨Z171, Z172, Z173, Z174, Z175⟩ := Kd.R_elem Z170.out z75 (Z4 : Int) (od) (by have h_ : (Z4 : Int) < ((Z2.length : Int) : Int) := od; first | exact h_ | (have e_ := (Kd.R_reads' Z6.out).1; omega) | simpa using h_); obtain rfl := k75_openM Z173; have Z176 := Kd.R_seg Z170.out (Z4 : Int) (od) (by have h_ : (Z4 : Int) < ((Z2.length : Int) : Int) := od; first | exact h_ | (have e_ := (Kd.R_reads' Z6.out).1; omega) | simpa using h_) (seg := [.int .i64 (wrap64 ((wrap64 ((wrap64 ((wrap64 (Z3 + 1)) + 1)) + 1)) + 1))]) (j := 4) Z172 Z174 (show 5 ≤ 6 from by decide) (x' := (⟨(rd_T75 Z16 Z4).f0, (rd_T75 Z16 Z4).f1, (rd_T75 Z16 Z4).f2, (rd_T75 Z16 Z4).f3, wrap64 ((wrap64 ((wrap64 ((wrap64 (Z3 + 1)) + 1)) + 1)) + 1), (rd_T75 Z16 Z4).f5⟩ : S75)) (k75_mkM _ _ _ (⟨(rd_T75 Z16 Z4).f0, (rd_T75 Z16 Z4).f1, (rd_T75 Z16 Z4).f2, (rd_T75 Z16 Z4).f3, wrap64 ((wrap64 ((wrap64 ((wrap64 (Z3 + 1)) + 1)) + 1)) + 1), (rd_T75 Z16 Z4).f5⟩ : S75) ) (fun _ hk => hk); have Z177 := Z174 4 _ rfl; (try simp only [show (k75).sz = 6 from rfl, Nat.mul_one, Nat.add_zero] at Z177); have Z178 := Z175 4; (try simp only [show (k75).sz = 6 from rfl, Nat.mul_one, Nat.add_zero] at Z178); clear Z172 Z174 Z175 Z173) | ((with_reducible refine gate_store (t := 3) (p := 44) rfl ?_); refine store_event (t := 3) (p := 44) (v := ?vo_w21) (w1 := (Z150.setCell ⟨Z27, (Z4 : Int).toNat * 6 + 4, none⟩ (.int .i64 (wrap64 ((wrap64 ((wrap64 ((wrap64 (Z3 + 1)) + 1)) + 1)) + 1))))) ?hg ?ho ?hn ?hr ?_; (case ho => rfl); (case hg => rfl); (case hn => rfl); (case hr => first | (go_simp; done) | (go_simp; rfl)); intro Z179 hw; have hg : Z150.grownBy Z179 (some Z27) := (by rw [hw]; exact Z176.2); have hp_ : Kd.R k75 75 Z179 w0.heap.size (fun k_ => (P0_ k_ ∨ w.heap.size ≤ k_)) (.slice (some ⟨Z27, 0, none⟩) Z2.length Z23) Z18 := (by rw [hw, Z19.out]; exact Z176.1); clear Z176; replace HB := ra ((by rw [hw]; exact below_set (HB.out) Z34.out : Below w0.heap.size w0 Z179)); replace HK := ra (Kept.of_grown (S := (fun k_ => P0_ k_)) hg (by repeat (first | (with_reducible first | exact HK.out | apply Kept.alloc | apply Kept.drewN | apply Kept.drew) | exact HK.out)) (fun k_ e_ => (Z6.out.1 k_ e_))); replace Z6 := ra (hp_); clear hg hw hp_; have Z180 : 0 ≤ (Z4 : Int) := od; have Z181 : (Z4 : Int) < ((Z2.length : Int) : Int) := od; obtain ⟨Z182, Z183, Z184, Z185, Z186⟩ := Kd.R_elem Z6.out z75 (Z4 : Int) Z180 Z181; obtain rfl := k75_openM Z184; have Z187 : Z179.cell? ⟨Z27, (Z4 : Int).toNat * 6, none⟩ = some (.int .i64 ((rd_T75 Z18 Z4).f0)) := Z185 0 _ rfl; have Z188 : Z179.cell? ⟨Z27, (Z4 : Int).toNat * 6 + 1, none⟩ = some (.int .i64 ((rd_T75 Z18 Z4).f1)) := Z185 1 _ rfl; have Z189 : Z179.cell? ⟨Z27, (Z4 : Int).toNat * 6 + 2, none⟩ = some (.int .i64 ((rd_T75 Z18 Z4).f2)) := Z185 2 _ rfl; have Z190 : Z179.cell? ⟨Z27, (Z4 : Int).toNat * 6 + 3, none⟩ = some (.int .i64 ((rd_T75 Z18 Z4).f3)) := Z185 3 _ rfl; have Z191 : Z179.cell? ⟨Z27, (Z4 : Int).toNat * 6 + 4, none⟩ = some (.int .i64 ((rd_T75 Z18 Z4).f4)) := Z185 4 _ rfl; have Z192 : Z179.cell? ⟨Z27, (Z4 : Int).toNat * 6 + 5, none⟩ = some (.int .i64 ((rd_T75 Z18 Z4).f5)) := Z185 5 _ rfl; have Z193 : Z179.frozen? ⟨Z27, (Z4 : Int).toNat * 6, none⟩ = false := Z186 0; have Z194 : Z179.frozen? ⟨Z27, (Z4 : Int).toNat * 6 + 1, none⟩ = false := Z186 1; have Z195 : Z179.frozen? ⟨Z27, (Z4 : Int).toNat * 6 + 2, none⟩ = false := Z186 2; have Z196 : Z179.frozen? ⟨Z27, (Z4 : Int).toNat * 6 + 3, none⟩ = false := Z186 3; have Z197 : Z179.frozen? ⟨Z27, (Z4 : Int).toNat * 6 + 4, none⟩ = false := Z186 4; have Z198 : Z179.frozen? ⟨Z27, (Z4 : Int).toNat * 6 + 5, none⟩ = false := Z186 5; clear Z183 Z185 Z186 Z184; replace Z180 := eq_true Z180; replace Z181 := eq_true Z181; have Z199 := ra (show Kd.R k75 75 Z179 w0.heap.size (fun k_ => (P0_ k_ ∨ w.heap.size ≤ k_)) (.slice (some ⟨Z27, 0, none⟩) Z2.length Z23) Z18 from (rq Z6)); obtain ⟨Z200, Z201, Z202, Z203, Z204⟩ := Kd.R_elem Z199.out z75 (Z4 : Int) (od) (by have h_ : (Z4 : Int) < ((Z2.length : Int) : Int) := od; first | exact h_ | (have e_ := (Kd.R_reads' Z6.out).1; omega) | simpa using h_); obtain rfl := k75_openM Z202; have Z205 := Kd.R_seg Z199.out (Z4 : Int) (od) (by have h_ : (Z4 : Int) < ((Z2.length : Int) : Int) := od; first | exact h_ | (have e_ := (Kd.R_reads' Z6.out).1; omega) | simpa using h_) (seg := [.int .i64 (wrap64 ((wrap64 ((wrap64 ((wrap64 ((wrap64 (Z3 + 1)) + 1)) + 1)) + 1)) + 1))]) (j := 5) Z201 Z203 (show 6 ≤ 6 from by decide) (x' := (⟨(rd_T75 Z18 Z4).f0, (rd_T75 Z18 Z4).f1, (rd_T75 Z18 Z4).f2, (rd_T75 Z18 Z4).f3, (rd_T75 Z18 Z4).f4, wrap64 ((wrap64 ((wrap64 ((wrap64 ((wrap64 (Z3 + 1)) + 1)) + 1)) + 1)) + 1)⟩ : S75)) (k75_mkM _ _ _ (⟨(rd_T75 Z18 Z4).f0, (rd_T75 Z18 Z4).f1, (rd_T75 Z18 Z4).f2, (rd_T75 Z18 Z4).f3, (rd_T75 Z18 Z4).f4, wrap64 ((wrap64 ((wrap64 ((wrap64 ((wrap64 (Z3 + 1)) + 1)) + 1)) + 1)) + 1)⟩ : S75) ) (fun _ hk => hk); have Z206 := Z203 5 _ rfl; (try simp only [show (k75).sz = 6 from rfl, Nat.mul_one, Nat.add_zero] at Z206); have Z207 := Z204 5; (try simp only [show (k75).sz = 6 from rfl, Nat.mul_one, Nat.add_zero] at Z207); clear Z201 Z203 Z204 Z202) | ((with_reducible refine gate_store (t := 3) (p := 51) rfl ?_); refine store_event (t := 3) (p := 51) (v := ?vo_w23) (w1 := (Z179.setCell ⟨Z27, (Z4 : Int).toNat * 6 + 5, none⟩ (.int .i64 (wrap64 ((wrap64 ((wrap64 ((wrap64 ((wrap64 (Z3 + 1)) + 1)) + 1)) + 1)) + 1))))) ?hg ?ho ?hn ?hr ?_; (case ho => rfl); (case hg => rfl); (case hn => rfl); (case hr => first | (go_simp; done) | (go_simp; rfl)); intro Z208 hw; have hg : Z179.grownBy Z208 (some Z27) := (by rw [hw]; exact Z205.2); have hp_ : Kd.R k75 75 Z208 w0.heap.size (fun k_ => (P0_ k_ ∨ w.heap.size ≤ k_)) (.slice (some ⟨Z27, 0, none⟩) Z2.length Z23) Z20 := (by rw [hw, Z21.out]; exact Z205.1); clear Z205; replace HB := ra ((by rw [hw]; exact below_set (HB.out) Z34.out : Below w0.heap.size w0 Z208)); replace HK := ra (Kept.of_grown (S := (fun k_ => P0_ k_)) hg (by repeat (first | (with_reducible first | exact HK.out | apply Kept.alloc | apply Kept.drewN | apply Kept.drew) | exact HK.out)) (fun k_ e_ => (Z6.out.1 k_ e_))); replace Z6 := ra (hp_); clear hg hw hp_))
    go_roundg Z7
    case measure => have := Z5.out; omega
    case rel => exact ⟨(Z20), (wrap64 ((wrap64 ((wrap64 ((wrap64 ((wrap64 ((wrap64 (Z3 + 1)) + 1)) + 1)) + 1)) + 1)) + 1)), (wrap64 (Z4 + 1)), rs, rs, H', ⟨by have := Z5.out; omega⟩, ⟨rq Z6⟩, ⟨by repeat (first | (with_reducible first | exact HK.out | apply Kept.alloc | apply Kept.drewN | apply Kept.drew) | exact HK.out)⟩, ⟨bq⟩⟩
   ·simp only [Option.some.injEq, Prod.mk.injEq] at H
    obtain ⟨rfl, rfl⟩ := H
    obtain ⟨Z9, Z10, Z11⟩ := Kd.R_slice Z6.out
    subst Z11
    go_wp2
    go_ret
    exact ⟨re, rq Z6, bq, by repeat (first | (with_reducible first | exact HK.out | apply Kept.alloc | apply Kept.drewN | apply Kept.drew) | exact HK.out)⟩
theorem laws_markProbeTube.calls (k : Nat) (a0_0 : ByteArray) (P0_1_ : Nat → Prop) (u9000_ : Value) (l0_1 : List (S75)) (a1 r1 : Int) (r2 : List (S75)) (w0 w : World) (hB : Below w0.heap.size w0 w) (ho0_1 : Kd.R k75 75 w w0.heap.size P0_1_ u9000_ l0_1) (h : laws_markProbeTube.f k a0_0 l0_1 a1 = some (r1, r2)) :
  Calls Tryz.prog 67 #[.agg #[.string a0_0, u9000_], .int .i64 a1] w fun e w' => e = .returned (.int .i64 r1) ∧ Kd.R k75 75 w' w0.heap.size (fun k_ => (P0_1_ k_ ∨ w.heap.size ≤ k_)) u9000_ r2 ∧ Below w0.heap.size w0 w' ∧ Kept w w' (fun k_ => P0_1_ k_) := by
 have Z0 := Tryz.underlying32
 have Z1 := ra (show Kd.R k75 75 w w0.heap.size (fun k_ => (P0_1_ k_ ∨ w.heap.size ≤ k_)) u9000_ l0_1 from Kd.R_mono ho0_1 (fun k_ hk => (.inl hk)))
 have HK := ra (Kept.refl w (fun k_ => P0_1_ k_))
 have Z2 := Aside0.mk hB.size
 have HB := ra hB; clear hB
 have H := h; unfold laws_markProbeTube.f at H
 clear h
 obtain ⟨⟨Z3, Z4⟩, Z5, H⟩ := bo H
 try dsimp only at H
 simp only [Option.some.injEq, Prod.mk.injEq] at H
 obtain ⟨rfl, rfl⟩ := H
 obtain ⟨Z6, Z7, Z8⟩ := Kd.R_slice Z1.out
 subst Z8
 go_enter Tryz.func67, Tryz.ntmps67
 go_wp2_with (first | ((with_reducible refine gd 2 rfl ?_); refine be 2 #[.string a0_0, .slice Z6 l0_1.length Z7] 32 ?_; intro Z9 hg Z10 hbox hb; have Z11 := ra (hbox); have Z12 := ra ((by rw [hg]; exact (by first | exact HK.out.1 | exact (show Kept w _ (fun k_ => P0_1_ k_) from by repeat (first | (with_reducible first | exact HK.out | apply Kept.alloc | apply Kept.drewN | apply Kept.drew) | exact HK.out)).1) : w.heap.size ≤ Z9)); have Z13 := ra ((by rw [hg]; exact (below_size bq) : w0.heap.size ≤ Z9)); replace Z1 := ra (Kd.R_below (rq Z1) hb); replace HK := ra (Kept.below (S := (fun k_ => P0_1_ k_)) (by repeat (first | (with_reducible first | exact HK.out | apply Kept.alloc | apply Kept.drewN | apply Kept.drew) | exact HK.out)) hb); replace HB := bs hb; clear hb hbox hg; obtain ⟨Z14, Z15, Z16, Z17⟩ := zc2 Z11) | ((with_reducible refine gc 66 rfl ?_); refine gy (some 8) Tryz.func66 (laws_markProbeBoxS.calls _ (fun k_ => some k_ = (.slice Z6 l0_1.length Z7 : Value).ownBlock) _ _ _ _ _ _ _ (by repeat (first | (with_reducible first | exact HB.out | apply below_alloc | apply pw_below_drewN | apply below_drew1 | refine below_set ?_ Z13.out) | exact HB.out)) (Kd.R_tight rfl Z1.out) Z5.out) ?_; rintro Z18 ⟨Z19, hb, hkp⟩; replace Z11 := ra (blk_kept (bk Z11) hkp (fun hs_ => (fun e_ => (Kd.R_ne Z1.out Z11.out (by decide)) e_) hs_)); replace HK := ra (Kept.then_ (S := (fun k_ => P0_1_ k_)) (by repeat (first | (with_reducible first | exact HK.out | apply Kept.alloc | apply Kept.drewN | apply Kept.drew | refine Kept.setCell ?_ (.inr Z12.out) _) | exact HK.out)) hkp (fun k_ hs_ => (fun e_ => (Z1.out.1 k_ e_.symm)) hs_)); replace Z1 := ra (Kd.R_reok rfl Z19 (fun k_ e_ => Z1.out.1 k_ e_)); replace HB := ra (hb); clear hb hkp Z19))
 go_ret
 exact ⟨re, rq Z1, bq, by repeat (first | (with_reducible first | exact HK.out | apply Kept.alloc | apply Kept.drewN | apply Kept.drew | refine Kept.setCell ?_ (.inr Z12.out) _) | exact HK.out)⟩
theorem laws_szProbeEvent.calls (a0_0 : Bool) (a0_1 : ByteArray) (A0_2 : Option Addr) (c0_2 : Nat) (l0_2 : List (S163)) (a1 r : Int) (w : World) (hr0_2 : Kd.C k163 w A0_2 l0_2.length l0_2) (hc0_2 : l0_2.length ≤ c0_2) (h : laws_szProbeEvent.f a0_0 a0_1 l0_2 a1 = some r) :
  Calls Tryz.prog 22 #[.agg #[.bool a0_0, .string a0_1, .slice A0_2 l0_2.length c0_2], .int .i64 a1] w fun e w' => e = .returned (.int .i64 r) ∧ Below w.heap.size w w' := by
 have Z0 := Tryz.underlying57
 have Z1 := Tryz.underlying55
 have Z2 := ra hr0_2
 have Z3 := ra hc0_2
 clear hr0_2 hc0_2
 have HB := ra (Below.refl w.heap.size w)
 have H := h; unfold laws_szProbeEvent.f at H
 clear h
 obtain ⟨Z4, Z5, H⟩ := bo H
 rcases td H with ⟨Z6, H⟩ | ⟨Z6, H⟩
 rotate_left
 rotate_left
 all_goals
  obtain rfl := Option.some.inj H
  go_enter Tryz.func22, Tryz.ntmps22
  go_wp2_with (first | ((with_reducible refine gd 2 rfl ?_); refine bd 2 #[.bool a0_0, .string a0_1, .slice A0_2 l0_2.length c0_2] 57 ?_; intro Z7 Z8 HB Z9 Z10; have Z11 : Z8.cell? ⟨Z7, 0, none⟩ = some (.bool a0_0) := (blk_cell Z9.out 0).trans rfl; have Z12 : Z8.cell? ⟨Z7, 1, none⟩ = some (.string a0_1) := (blk_cell Z9.out 1).trans rfl; have Z13 : Z8.cell? ⟨Z7, 2, none⟩ = some (.slice A0_2 l0_2.length c0_2) := (blk_cell Z9.out 2).trans rfl; have Z14 := blk_frozen Z9.out 0; have Z15 := blk_frozen Z9.out 1; have Z16 := blk_frozen Z9.out 2) | ((with_reducible refine gc 58 rfl ?_); refine gy (some 8) Tryz.func58 (laws_szProbeTube.calls _ _ _ _ _ _ _ (sc Z2) Z3.out Z5.out) ?_; rintro Z17 hb; replace Z9 := bb (bk Z9) hb; replace HB := bs hb; clear hb))
  go_ret
  exact ⟨re, bq⟩
theorem laws_toProbeEvent.calls (k : Nat) (a0_0 : Bool) (a0_1 : ByteArray) (A0_2 : Option Addr) (c0_2 : Nat) (l0_2 : List (S163)) (r1 : Bool) (r2 : ByteArray) (r3 : List (S75)) (w : World) (hr0_2 : Kd.C k163 w A0_2 l0_2.length l0_2) (hc0_2 : l0_2.length ≤ c0_2) (h : laws_toProbeEvent.f k a0_0 a0_1 l0_2 = some (r1, r2, r3)) :
  Calls Tryz.prog 26 #[.agg #[.bool a0_0, .string a0_1, .slice A0_2 l0_2.length c0_2]] w fun e w' => ∃ v2_ : Value, e = .returned (.agg #[.bool r1, .string r2, v2_]) ∧ Kd.R k75 75 w' w.heap.size (fun _ => True) v2_ r3 ∧ Below w.heap.size w w' := by
 have Z0 := Tryz.underlying57
 have Z1 := Tryz.underlying34
 have Z2 := Tryz.underlying55
 have Z3 := Tryz.underlying32
 have Z4 := ra hr0_2
 have Z5 := ra hc0_2
 clear hr0_2 hc0_2
 have HB := ra (Below.refl w.heap.size w)
 have H := h; unfold laws_toProbeEvent.f at H
 clear h
 obtain ⟨⟨Z6, Z7⟩, Z8, H⟩ := bo H
 try dsimp only at H
 simp only [Option.some.injEq, Prod.mk.injEq] at H
 obtain ⟨rfl, rfl, rfl⟩ := H
 go_enter Tryz.func26, Tryz.ntmps26
 go_wp2_with (first | ((with_reducible refine gd 1 rfl ?_); refine bd 1 #[.bool a0_0, .string a0_1, .slice A0_2 l0_2.length c0_2] 57 ?_; intro Z9 Z10 HB Z11 Z12) | ((with_reducible refine gd 2 rfl ?_); refine bf 2 #[.bool false, .string (⟨#[]⟩ : ByteArray), .slice none 0 0] 34 ?_; intro Z13 Z14 hg hb HB Z15 Z16; have Z17 := bn hg (bk Z11); have Z18 := bm hg (bk Z11); replace Z11 := bb (bk Z11) hb; clear hg hb) | ((with_reducible refine gd 3 rfl ?_); refine bf 3 #[.bool false, .string (⟨#[]⟩ : ByteArray), .slice none 0 0] 34 ?_; intro Z19 Z20 hg hb HB Z21 Z22; have Z23 := bn hg (bk Z11); have Z24 := bm hg (bk Z11); have Z25 := bn hg (bk Z15); have Z26 := bm hg (bk Z15); replace Z11 := bb (bk Z11) hb; replace Z15 := bb (bk Z15) hb; have Z27 := Z17.out; have Z28 := Z18.out; have Z29 := Z23.out; have Z30 := Z24.out; have Z31 : Z20.cell? ⟨Z9, 0, none⟩ = some (.bool a0_0) := (blk_cell Z11.out 0).trans rfl; have Z32 : Z20.cell? ⟨Z9, 1, none⟩ = some (.string a0_1) := (blk_cell Z11.out 1).trans rfl; have Z33 : Z20.cell? ⟨Z9, 2, none⟩ = some (.slice A0_2 l0_2.length c0_2) := (blk_cell Z11.out 2).trans rfl; have Z34 := blk_frozen Z11.out 0; have Z35 := blk_frozen Z11.out 1; have Z36 := blk_frozen Z11.out 2; have Z37 := Z26.out; have Z38 := Z25.out; have Z39 : Z20.cell? ⟨Z19, 0, none⟩ = some (.bool false) := (blk_cell Z21.out 0).trans rfl; have Z40 : Z20.cell? ⟨Z19, 1, none⟩ = some (.string (⟨#[]⟩ : ByteArray)) := (blk_cell Z21.out 1).trans rfl; have Z41 : Z20.cell? ⟨Z19, 2, none⟩ = some (.slice none 0 0) := (blk_cell Z21.out 2).trans rfl; have Z42 := blk_frozen Z21.out 0; have Z43 := blk_frozen Z21.out 1; have Z44 := blk_frozen Z21.out 2; clear hg hb) | ((with_reducible refine gc 61 rfl ?_); refine gx (some 9) Tryz.func61 (laws_toProbeTube.calls _ _ _ _ _ _ _ _ (Kd.C_below Z4.out bq) Z5.out Z8.out) ?_; rintro Z45 Z46 ⟨Z47, hb⟩; have Z48 := ra (Kd.R_lower Z47 (below_size bq)); replace Z11 := bb (bk Z11) hb; replace Z15 := bb (bk Z15) hb; replace Z21 := bb (o := .cells #[.bool a0_0, .string (⟨#[]⟩ : ByteArray), .slice none 0 0] 34 (0, 0)) (bp Z21) hb; replace HB := bs hb; clear hb Z47; have Z49 : Z46.cell? ⟨Z19, 0, none⟩ = some (.bool a0_0) := (blk_cell Z21.out 0).trans rfl; have Z50 : Z46.cell? ⟨Z19, 1, none⟩ = some (.string (⟨#[]⟩ : ByteArray)) := (blk_cell Z21.out 1).trans rfl; have Z51 : Z46.cell? ⟨Z19, 2, none⟩ = some (.slice none 0 0) := (blk_cell Z21.out 2).trans rfl; have Z52 := blk_frozen Z21.out 0; have Z53 := blk_frozen Z21.out 1; have Z54 := blk_frozen Z21.out 2; obtain ⟨Z55, Z56, Z57⟩ := Kd.R_slice Z48.out; subst Z57; have Z58 : Z46.cell? ⟨Z13, 0, none⟩ = some (.bool false) := (blk_cell Z15.out 0).trans rfl; have Z59 : Z46.cell? ⟨Z13, 1, none⟩ = some (.string (⟨#[]⟩ : ByteArray)) := (blk_cell Z15.out 1).trans rfl; have Z60 : Z46.cell? ⟨Z13, 2, none⟩ = some (.slice none 0 0) := (blk_cell Z15.out 2).trans rfl; have Z61 := blk_frozen Z15.out 0; have Z62 := blk_frozen Z15.out 1; have Z63 := blk_frozen Z15.out 2))
 refine bodyPost_ret (results_cell_row rfl _ _ Z13 34 #[.bool a0_0, .string Z6, .slice Z55 Z7.length Z56] (0, 0) _ rfl (bp Z15) Tryz.underlying34 rfl (by kernel_rfl)) rfl ?_
 exact ⟨_, re, by (with_reducible repeat (first | apply Kd.R_alloc | apply Kd.R_drewN | apply Kd.R_drew)); exact Kd.R_mono (rf (Kd.R_types (Kd.R_types Z48.out Z21.out (by decide)) Z15.out (by decide))) (fun _ hk => trivial), bq⟩
theorem laws_eqProbeEvent.calls (k : Nat) (a0_0 : Bool) (a0_1 : ByteArray) (A0_2 : Option Addr) (c0_2 : Nat) (l0_2 : List (S75)) (a1_0 : Bool) (a1_1 : ByteArray) (A1_2 : Option Addr) (c1_2 : Nat) (l1_2 : List (S75)) (r : Bool) (w : World) (hr0_2 : Kd.C k75 w A0_2 l0_2.length l0_2) (hc0_2 : l0_2.length ≤ c0_2) (hr1_2 : Kd.C k75 w A1_2 l1_2.length l1_2) (hc1_2 : l1_2.length ≤ c1_2) (h : laws_eqProbeEvent.f k a0_0 a0_1 l0_2 a1_0 a1_1 l1_2 = some r) :
  Calls Tryz.prog 29 #[.agg #[.bool a0_0, .string a0_1, .slice A0_2 l0_2.length c0_2], .agg #[.bool a1_0, .string a1_1, .slice A1_2 l1_2.length c1_2]] w fun e w' => e = .returned (.bool r) ∧ Below w.heap.size w w' := by
 have Z0 := Tryz.underlying34
 have Z1 := Tryz.underlying32
 have Z2 := ra hr0_2
 have Z3 := ra hc0_2
 clear hr0_2 hc0_2
 have Z4 := ra hr1_2
 have Z5 := ra hc1_2
 clear hr1_2 hc1_2
 have HB := ra (Below.refl w.heap.size w)
 have H := h; unfold laws_eqProbeEvent.f at H
 clear h
 by_cases Z6 : (a0_0 != a1_0) = true
 ·rw [if_pos Z6] at H
  have Z7 : (a0_0 != a1_0) = true := Z6
  (try (have Z8 : decide (a0_0 = a1_0) = false := by simpa using Z6))
  (try (have Z9 : (a0_0 == a1_0) = false := by simpa using Z6))
  (try (have Z10 : ¬ (a0_0 = a1_0) := by simpa using Z6))
  clear Z6
  obtain rfl := Option.some.inj H
  go_enter Tryz.func29, Tryz.ntmps29
  go_wp2_with (first | ((with_reducible refine gd 2 rfl ?_); refine bd 2 #[.bool a0_0, .string a0_1, .slice A0_2 l0_2.length c0_2] 34 ?_; intro Z11 Z12 HB Z13 Z14) | ((with_reducible refine gd 3 rfl ?_); refine bf 3 #[.bool a1_0, .string a1_1, .slice A1_2 l1_2.length c1_2] 34 ?_; intro Z15 Z16 hg hb HB Z17 Z18; have Z19 := bn hg (bk Z13); have Z20 := bm hg (bk Z13); replace Z13 := bb (bk Z13) hb; have Z21 := Z19.out; have Z22 := Z20.out; have Z23 : Z16.cell? ⟨Z11, 0, none⟩ = some (.bool a0_0) := (blk_cell Z13.out 0).trans rfl; have Z24 : Z16.cell? ⟨Z11, 1, none⟩ = some (.string a0_1) := (blk_cell Z13.out 1).trans rfl; have Z25 : Z16.cell? ⟨Z11, 2, none⟩ = some (.slice A0_2 l0_2.length c0_2) := (blk_cell Z13.out 2).trans rfl; have Z26 := blk_frozen Z13.out 0; have Z27 := blk_frozen Z13.out 1; have Z28 := blk_frozen Z13.out 2; have Z29 : Z16.cell? ⟨Z15, 0, none⟩ = some (.bool a1_0) := (blk_cell Z17.out 0).trans rfl; have Z30 : Z16.cell? ⟨Z15, 1, none⟩ = some (.string a1_1) := (blk_cell Z17.out 1).trans rfl; have Z31 : Z16.cell? ⟨Z15, 2, none⟩ = some (.slice A1_2 l1_2.length c1_2) := (blk_cell Z17.out 2).trans rfl; have Z32 := blk_frozen Z17.out 0; have Z33 := blk_frozen Z17.out 1; have Z34 := blk_frozen Z17.out 2; clear hg hb))
  go_ret
  exact ⟨re, bq⟩
 ·rw [if_neg Z6] at H
  have Z7 : (a0_0 != a1_0) = false := by simpa using Z6
  (try (have Z8 : decide (a0_0 = a1_0) = true := by simpa using Z6))
  (try (have Z9 : (a0_0 == a1_0) = true := by simpa using Z6))
  clear Z6
  obtain ⟨Z10, Z11, H⟩ := bo H
  rcases ud H with ⟨rfl, Z12⟩ | ⟨rfl, Z12⟩ <;> have H := Z12
  ·obtain rfl := Option.some.inj H
   go_enter Tryz.func29, Tryz.ntmps29
   go_wp2_with (first | ((with_reducible refine gd 2 rfl ?_); refine bd 2 #[.bool a0_0, .string a0_1, .slice A0_2 l0_2.length c0_2] 34 ?_; intro Z13 Z14 HB Z15 Z16) | ((with_reducible refine gd 3 rfl ?_); refine bf 3 #[.bool a1_0, .string a1_1, .slice A1_2 l1_2.length c1_2] 34 ?_; intro Z17 Z18 hg hb HB Z19 Z20; have Z21 := bn hg (bk Z15); have Z22 := bm hg (bk Z15); replace Z15 := bb (bk Z15) hb; have Z23 := Z21.out; have Z24 := Z22.out; have Z25 : Z18.cell? ⟨Z13, 0, none⟩ = some (.bool a0_0) := (blk_cell Z15.out 0).trans rfl; have Z26 : Z18.cell? ⟨Z13, 1, none⟩ = some (.string a0_1) := (blk_cell Z15.out 1).trans rfl; have Z27 : Z18.cell? ⟨Z13, 2, none⟩ = some (.slice A0_2 l0_2.length c0_2) := (blk_cell Z15.out 2).trans rfl; have Z28 := blk_frozen Z15.out 0; have Z29 := blk_frozen Z15.out 1; have Z30 := blk_frozen Z15.out 2; have Z31 : Z18.cell? ⟨Z17, 0, none⟩ = some (.bool a1_0) := (blk_cell Z19.out 0).trans rfl; have Z32 : Z18.cell? ⟨Z17, 1, none⟩ = some (.string a1_1) := (blk_cell Z19.out 1).trans rfl; have Z33 : Z18.cell? ⟨Z17, 2, none⟩ = some (.slice A1_2 l1_2.length c1_2) := (blk_cell Z19.out 2).trans rfl; have Z34 := blk_frozen Z19.out 0; have Z35 := blk_frozen Z19.out 1; have Z36 := blk_frozen Z19.out 2; clear hg hb) | ((with_reducible refine gc 63 rfl ?_); refine gy (some 14) Tryz.func63 (laws_eqProbeTube.calls _ _ _ _ _ _ _ _ _ _ _ (sc Z2) Z3.out (sc Z4) Z5.out Z11.out) ?_; rintro Z37 hb; replace Z15 := bb (bk Z15) hb; replace Z19 := bb (bk Z19) hb; replace HB := bs hb; clear hb))
   go_ret
   exact ⟨re, bq⟩
  ·obtain rfl := Option.some.inj H
   go_enter Tryz.func29, Tryz.ntmps29
   go_wp2_with (first | ((with_reducible refine gd 2 rfl ?_); refine bd 2 #[.bool a0_0, .string a0_1, .slice A0_2 l0_2.length c0_2] 34 ?_; intro Z13 Z14 HB Z15 Z16) | ((with_reducible refine gd 3 rfl ?_); refine bf 3 #[.bool a1_0, .string a1_1, .slice A1_2 l1_2.length c1_2] 34 ?_; intro Z17 Z18 hg hb HB Z19 Z20; have Z21 := bn hg (bk Z15); have Z22 := bm hg (bk Z15); replace Z15 := bb (bk Z15) hb; have Z23 := Z21.out; have Z24 := Z22.out; have Z25 : Z18.cell? ⟨Z13, 0, none⟩ = some (.bool a0_0) := (blk_cell Z15.out 0).trans rfl; have Z26 : Z18.cell? ⟨Z13, 1, none⟩ = some (.string a0_1) := (blk_cell Z15.out 1).trans rfl; have Z27 : Z18.cell? ⟨Z13, 2, none⟩ = some (.slice A0_2 l0_2.length c0_2) := (blk_cell Z15.out 2).trans rfl; have Z28 := blk_frozen Z15.out 0; have Z29 := blk_frozen Z15.out 1; have Z30 := blk_frozen Z15.out 2; have Z31 : Z18.cell? ⟨Z17, 0, none⟩ = some (.bool a1_0) := (blk_cell Z19.out 0).trans rfl; have Z32 : Z18.cell? ⟨Z17, 1, none⟩ = some (.string a1_1) := (blk_cell Z19.out 1).trans rfl; have Z33 : Z18.cell? ⟨Z17, 2, none⟩ = some (.slice A1_2 l1_2.length c1_2) := (blk_cell Z19.out 2).trans rfl; have Z34 := blk_frozen Z19.out 0; have Z35 := blk_frozen Z19.out 1; have Z36 := blk_frozen Z19.out 2; clear hg hb) | ((with_reducible refine gc 63 rfl ?_); refine gy (some 14) Tryz.func63 (laws_eqProbeTube.calls _ _ _ _ _ _ _ _ _ _ _ (sc Z2) Z3.out (sc Z4) Z5.out Z11.out) ?_; rintro Z37 hb; replace Z15 := bb (bk Z15) hb; replace Z19 := bb (bk Z19) hb; replace HB := bs hb; clear hb))
   go_ret
   exact ⟨re, bq⟩
theorem laws_markProbeEvent.calls (k : Nat) (a0_0 : Bool) (a0_1 : ByteArray) (P0_2_ : Nat → Prop) (u9000_ : Value) (l0_2 : List (S75)) (a1 r1 : Int) (r2 : List (S75)) (w0 w : World) (hB : Below w0.heap.size w0 w) (ho0_2 : Kd.R k75 75 w w0.heap.size P0_2_ u9000_ l0_2) (h : laws_markProbeEvent.f k a0_0 a0_1 l0_2 a1 = some (r1, r2)) :
  Calls Tryz.prog 32 #[.agg #[.bool a0_0, .string a0_1, u9000_], .int .i64 a1] w fun e w' => e = .returned (.int .i64 r1) ∧ Kd.R k75 75 w' w0.heap.size (fun k_ => (P0_2_ k_ ∨ w.heap.size ≤ k_)) u9000_ r2 ∧ Below w0.heap.size w0 w' ∧ Kept w w' (fun k_ => P0_2_ k_) := by
 have Z0 := Tryz.underlying34
 have Z1 := Tryz.underlying32
 have Z2 := ra (show Kd.R k75 75 w w0.heap.size (fun k_ => (P0_2_ k_ ∨ w.heap.size ≤ k_)) u9000_ l0_2 from Kd.R_mono ho0_2 (fun k_ hk => (.inl hk)))
 have HK := ra (Kept.refl w (fun k_ => P0_2_ k_))
 have Z3 := Aside0.mk hB.size
 have HB := ra hB; clear hB
 have H := h; unfold laws_markProbeEvent.f at H
 clear h
 obtain ⟨⟨Z4, Z5⟩, Z6, H⟩ := bo H
 try dsimp only at H
 simp only [Option.some.injEq, Prod.mk.injEq] at H
 obtain ⟨rfl, rfl⟩ := H
 obtain ⟨Z7, Z8, Z9⟩ := Kd.R_slice Z2.out
 subst Z9
 go_enter Tryz.func32, Tryz.ntmps32
 go_wp2_with (first | ((with_reducible refine gd 2 rfl ?_); refine be 2 #[.bool a0_0, .string a0_1, .slice Z7 l0_2.length Z8] 34 ?_; intro Z10 hg Z11 hbox hb; have Z12 := ra (hbox); have Z13 := ra ((by rw [hg]; exact (by first | exact HK.out.1 | exact (show Kept w _ (fun k_ => P0_2_ k_) from by repeat (first | (with_reducible first | exact HK.out | apply Kept.alloc | apply Kept.drewN | apply Kept.drew) | exact HK.out)).1) : w.heap.size ≤ Z10)); have Z14 := ra ((by rw [hg]; exact (below_size bq) : w0.heap.size ≤ Z10)); replace Z2 := ra (Kd.R_below (rq Z2) hb); replace HK := ra (Kept.below (S := (fun k_ => P0_2_ k_)) (by repeat (first | (with_reducible first | exact HK.out | apply Kept.alloc | apply Kept.drewN | apply Kept.drew) | exact HK.out)) hb); replace HB := bs hb; clear hb hbox hg; have Z15 : Z11.cell? ⟨Z10, 0, none⟩ = some (.bool a0_0) := (blk_cell Z12.out 0).trans rfl; have Z16 : Z11.cell? ⟨Z10, 1, none⟩ = some (.string a0_1) := (blk_cell Z12.out 1).trans rfl; have Z17 : Z11.cell? ⟨Z10, 2, none⟩ = some (.slice Z7 l0_2.length Z8) := (blk_cell Z12.out 2).trans rfl; have Z18 := blk_frozen Z12.out 0; have Z19 := blk_frozen Z12.out 1; have Z20 := blk_frozen Z12.out 2) | ((with_reducible refine gc 67 rfl ?_); refine gy (some 8) Tryz.func67 (laws_markProbeTube.calls _ _ (fun k_ => some k_ = (.slice Z7 l0_2.length Z8 : Value).ownBlock) _ _ _ _ _ _ _ (by repeat (first | (with_reducible first | exact HB.out | apply below_alloc | apply pw_below_drewN | apply below_drew1 | refine below_set ?_ Z14.out) | exact HB.out)) (Kd.R_tight rfl Z2.out) Z6.out) ?_; rintro Z21 ⟨Z22, hb, hkp⟩; replace Z12 := ra (blk_kept (bk Z12) hkp (fun hs_ => (fun e_ => (Kd.R_ne Z2.out Z12.out (by decide)) e_) hs_)); replace HK := ra (Kept.then_ (S := (fun k_ => P0_2_ k_)) (by repeat (first | (with_reducible first | exact HK.out | apply Kept.alloc | apply Kept.drewN | apply Kept.drew | refine Kept.setCell ?_ (.inr Z13.out) _) | exact HK.out)) hkp (fun k_ hs_ => (fun e_ => (Z2.out.1 k_ e_.symm)) hs_)); replace Z2 := ra (Kd.R_reok rfl Z22 (fun k_ e_ => Z2.out.1 k_ e_)); replace HB := ra (hb); clear hb hkp Z22))
 go_ret
 exact ⟨re, rq Z2, bq, by repeat (first | (with_reducible first | exact HK.out | apply Kept.alloc | apply Kept.drewN | apply Kept.drew | refine Kept.setCell ?_ (.inr Z13.out) _) | exact HK.out)⟩
theorem spec_l1In.calls (a0 a1 a2 : Int) (r : Bool) (w : World) (h : spec_l1In.f a0 a1 a2 = some r) :
  Calls Tryz.prog 80 #[.int .i64 a0, .int .i64 a1, .int .i64 a2] w fun e w' => e = .returned (.bool r) ∧ Drawn0 w w' := by
 have H := h; unfold spec_l1In.f at H
 clear h
 rcases td H with ⟨Z0, H⟩ | ⟨Z0, H⟩
 rotate_left
 rotate_left
 all_goals
  obtain rfl := Option.some.inj H
  go_enter Tryz.func80, Tryz.ntmps80
  go_wp2
  go_ret
  exact ⟨rs, d0⟩
theorem impl_in.calls (a0 a1 a2 : Int) (r : Bool) (w : World) (h : impl_in.f a0 a1 a2 = some r) :
  Calls Tryz.prog 75 #[.int .i64 a0, .int .i64 a1, .int .i64 a2] w fun e w' => e = .returned (.bool r) ∧ Drawn0 w w' := by
 have H := h; unfold impl_in.f at H
 clear h
 rcases td H with ⟨Z0, H⟩ | ⟨Z0, H⟩
 rotate_left
 rotate_left
 all_goals
  obtain rfl := Option.some.inj H
  go_enter Tryz.func75, Tryz.ntmps75
  go_wp2
  go_ret
  exact ⟨rs, d0⟩
theorem impl_ProbeBoxOk.calls (a0_0 a0_1 a0_2 a0_3 a0_4 a0_5 : Int) (r : Bool) (w : World) (h : impl_ProbeBoxOk.f a0_0 a0_1 a0_2 a0_3 a0_4 a0_5 = some r) :
  Calls Tryz.prog 76 #[.agg #[.int .i64 a0_0, .int .i64 a0_1, .int .i64 a0_2, .int .i64 a0_3, .int .i64 a0_4, .int .i64 a0_5]] w fun e w' => e = .returned (.bool r) ∧ Below w.heap.size w w' := by
 have Z0 := Tryz.underlying75
 have HB := ra (Below.refl w.heap.size w)
 have H := h; unfold impl_ProbeBoxOk.f at H
 clear h
 obtain ⟨Z1, Z2, H⟩ := bo H
 rcases ud H with ⟨rfl, Z3⟩ | ⟨rfl, Z3⟩ <;> have H := Z3
 obtain ⟨Z4, Z5, H⟩ := bo H
 rcases ud H with ⟨rfl, Z6⟩ | ⟨rfl, Z6⟩ <;> have H := Z6
 rcases td H with ⟨Z7, H⟩ | ⟨Z7, H⟩
 rcases td H with ⟨Z8, H⟩ | ⟨Z8, H⟩
 rcases td H with ⟨Z9, H⟩ | ⟨Z9, H⟩
 rcases td H with ⟨Z10, H⟩ | ⟨Z10, H⟩
 rcases td H with ⟨Z11, H⟩ | ⟨Z11, H⟩
 rotate_left
 rotate_left
 rotate_left
 rotate_left
 rotate_left
 rotate_left
 rotate_left
 ·obtain rfl := Option.some.inj H
  go_enter Tryz.func76, Tryz.ntmps76
  go_wp2_with (first | ((with_reducible refine gd 1 rfl ?_); refine bd 1 #[.int .i64 a0_0, .int .i64 a0_1, .int .i64 a0_2, .int .i64 a0_3, .int .i64 a0_4, .int .i64 a0_5] 75 ?_; intro Z4 Z5 HB Z6 Z7; obtain ⟨Z8, Z9, Z10, Z11, Z12, Z13, Z14, Z15, Z16, Z17, Z18, Z19⟩ := zc6 Z6) | ((with_reducible refine gc 75 rfl ?_); refine gy (some 5) Tryz.func75 (impl_in.calls _ _ _ _ _ Z2.out) ?_; rintro w' ⟨nd, rfl⟩))
  go_ret
  exact ⟨re, bq⟩
 all_goals
  obtain rfl := Option.some.inj H
  go_enter Tryz.func76, Tryz.ntmps76
  go_wp2_with (first | ((with_reducible refine gd 1 rfl ?_); refine bd 1 #[.int .i64 a0_0, .int .i64 a0_1, .int .i64 a0_2, .int .i64 a0_3, .int .i64 a0_4, .int .i64 a0_5] 75 ?_; intro Z12 Z13 HB Z14 Z15; obtain ⟨Z16, Z17, Z18, Z19, Z20, Z21, Z22, Z23, Z24, Z25, Z26, Z27⟩ := zc6 Z14) | ((with_reducible refine gc 75 rfl ?_); refine gy (some 5) Tryz.func75 (impl_in.calls _ _ _ _ _ Z2.out) ?_; rintro w' ⟨nd, rfl⟩) | (go_at_call 75; (with_reducible refine (impl_in.calls _ _ _ _ _ Z5.out).mono ?_); rintro e w' ⟨rfl, ⟨nd, rfl⟩⟩))
  go_ret
  exact ⟨re, bq⟩
theorem impl_ProbeTubeOk.calls (k : Nat) (a0_0 : ByteArray) (A0_1 : Option Addr) (c0_1 : Nat) (l0_1 : List (S75)) (r : Bool) (w : World) (hr0_1 : Kd.C k75 w A0_1 l0_1.length l0_1) (hc0_1 : l0_1.length ≤ c0_1) (h : impl_ProbeTubeOk.f k a0_0 l0_1 = some r) :
  Calls Tryz.prog 43 #[.agg #[.string a0_0, .slice A0_1 l0_1.length c0_1]] w fun e w' => e = .returned (.bool r) ∧ Below w.heap.size w w' := by
 have Z0 := Tryz.underlying32
 have Z1 := Tryz.underlying75
 have Z2 := ra hr0_1
 have Z3 := ra hc0_1
 clear hr0_1 hc0_1
 have HB := ra (Below.refl w.heap.size w)
 have H := h; unfold impl_ProbeTubeOk.f at H
 clear h
 have Z4 := ra H; clear H
 go_enter Tryz.func43, Tryz.ntmps43
 go_upto_region 1 with (first | ((with_reducible refine gd 1 rfl ?_); (try (refine gate_guard (by rfl) ?_; dsimp only)); refine bd 1 #[.string a0_0, .slice A0_1 l0_1.length c0_1] 32 ?_; intro Z5 Z6 HB Z7 Z8))
 (try simp only [Act.put, List.setIfInBounds_toArray, List.set_cons_zero, List.set_cons_succ])
 go_cut [17] (fun v17 wc => ∃ (kq : Nat) (x17_1 : Bool), v17 = .bool x17_1 ∧ Aside0 (impl_ProbeTubeOk.j0 kq x17_1 a0_0 l0_1 = some r) ∧ Aside0 (kq ≤ k) ∧ Aside0 (wc.heap[Z5]? = some (.cells #[.string a0_0, (.slice A0_1 l0_1.length c0_1)] 32 (0, 0))) ∧ Aside0 (Below w.heap.size w wc))
 case first =>
  have H := Z4.out
  clear Z4
  obtain ⟨Z9, Z10, H⟩ := bo H
  rcases ud H with ⟨rfl, Z11⟩ | ⟨rfl, Z11⟩ <;> have H := Z11
  rotate_left
  rotate_left
  all_goals
   have H' := ra H; clear H
   obtain ⟨Z12, Z13, Z14, Z15⟩ := zc2 Z7
   go_wp2_with (first | ((with_reducible refine gc 75 rfl ?_); refine gy (some 10) Tryz.func75 (impl_in.calls _ _ _ _ _ Z10.out) ?_; rintro w' ⟨nd, rfl⟩))
   go_meet
   case rel => exact ⟨_, _, rs, H', ⟨by first | omega | exact Nat.le_refl _⟩, ⟨bk Z7⟩, ⟨bq⟩⟩
 case rest =>
  clear Z4
  obtain ⟨kq, Z9, rfl, HA, Z10, Z7, HB⟩ := hcut
  cases kq with
  | zero => exact absurd HA.out (by simp [impl_ProbeTubeOk.j0])
  | succ Z11 =>
   have H := HA.out
   clear HA
   simp only [impl_ProbeTubeOk.j0] at H
   rcases ud H with ⟨rfl, Z12⟩ | ⟨rfl, Z12⟩ <;> have H := Z12
   ·obtain rfl := Option.some.inj H
    go_wp2
    go_ret
    exact ⟨re, bq⟩
   ·have H' := ra H; clear H
    go_wp2
    go_loopg [3] Z11 (fun kq v3 w' => ∃ (x3_2 : Int), v3 = .int .i64 x3_2 ∧ Aside0 (impl_ProbeTubeOk.l0 kq x3_2 a0_0 l0_1 = some r) ∧ Aside0 (kq ≤ Z11) ∧ Aside0 (w'.heap[Z5]? = some (.cells #[.string a0_0, (.slice A0_1 l0_1.length c0_1)] 32 (0, 0))) ∧ Aside0 (Below w.heap.size w w'))
    case atStart => exact ⟨_, rs, H', ⟨Nat.le_refl _⟩, ⟨bk Z7⟩, ⟨bq⟩⟩
    case round =>
     clear H'
     obtain ⟨Z13, rfl, HA, Z14, Z7, HB⟩ := hrel
     cases gk with
     | zero => exact absurd HA.out (by simp [impl_ProbeTubeOk.l0])
     | succ Z15 =>
      have H := HA.out
      clear HA
      simp only [impl_ProbeTubeOk.l0] at H
      rcases td H with ⟨Z16, H⟩ | ⟨Z16, H⟩
      obtain ⟨Z17, H⟩ := tn H
      rcases td H with ⟨Z18, H⟩ | ⟨Z18, H⟩
      rcases td H with ⟨Z19, H⟩ | ⟨Z19, H⟩
      rotate_left
      rcases td H with ⟨Z20, H⟩ | ⟨Z20, H⟩
      rcases td H with ⟨Z21, H⟩ | ⟨Z21, H⟩
      rotate_left
      rcases ed H with ⟨-, Z22, Z23, H⟩ | ⟨Z24, Z22, Z23, H⟩
      rotate_left
      rotate_left
      rcases ed H with ⟨-, Z21, Z22, H⟩ | ⟨Z23, Z21, Z22, H⟩
      rotate_left
      rotate_left
      rcases td H with ⟨Z19, H⟩ | ⟨Z19, H⟩
      rcases td H with ⟨Z20, H⟩ | ⟨Z20, H⟩
      rotate_left
      rcases ed H with ⟨-, Z21, Z22, H⟩ | ⟨Z23, Z21, Z22, H⟩
      rotate_left
      rotate_left
      rcases ed H with ⟨-, Z20, Z21, H⟩ | ⟨Z22, Z20, Z21, H⟩
      rotate_left
      rotate_left
      ·have H' := ra H; clear H
       obtain ⟨Z17, Z18, Z19, Z20⟩ := zc2 Z7
       go_wp2
       go_loopg [51] Z15 (fun kq v51 w' => ∃ (x51_3 : Int), v51 = .int .i64 x51_3 ∧ Aside0 (impl_ProbeTubeOk.l1 kq l0_1 (l0_1.length : Int) x51_3 = some r) ∧ Aside0 (kq ≤ Z15) ∧ Aside0 (w'.heap[Z5]? = some (.cells #[.string a0_0, (.slice A0_1 l0_1.length c0_1)] 32 (0, 0))) ∧ Aside0 (Below w.heap.size w w'))
       case atStart => exact ⟨_, rs, H', ⟨Nat.le_refl _⟩, ⟨bk Z7⟩, ⟨bq⟩⟩
       case round =>
        clear H'
        try clear Z16
        try clear Z17
        try clear Z18
        try clear Z19
        try clear Z20
        obtain ⟨Z21, rfl, HA, Z22, Z7, HB⟩ := hrel
        cases gk with
        | zero => exact absurd HA.out (by simp [impl_ProbeTubeOk.l1])
        | succ Z23 =>
         have H := HA.out
         clear HA
         simp only [impl_ProbeTubeOk.l1] at H
         rcases td H with ⟨Z24, H⟩ | ⟨Z24, H⟩
         ·obtain ⟨Z25, H⟩ := tn H
          obtain ⟨Z26, H⟩ := tn H
          obtain ⟨Z27, Z28, H⟩ := bo H
          rcases ud H with ⟨rfl, Z29⟩ | ⟨rfl, Z29⟩ <;> have H := Z29
          ·have H' := ra H; clear H
           have Z30 : 0 ≤ (Z21 : Int) := od
           have Z31 : Z21 < (l0_1.length : Int) := od
           obtain ⟨Z32, Z33, Z34, Z35, Z36, Z37, Z38, Z39⟩ := at_T75 Z2.out Z21 Z30 Z31
           cases Z33
           replace Z34 := hc HB Z34
           replace Z35 := hc HB Z35
           replace Z36 := hc HB Z36
           replace Z37 := hc HB Z37
           replace Z38 := hc HB Z38
           replace Z39 := hc HB Z39
           replace Z30 := eq_true Z30
           replace Z31 := eq_true Z31
           go_wp2_with (first | ((with_reducible refine gd 6 rfl ?_); (try (refine gate_guard (by rfl) ?_; dsimp only)); refine bf 6 #[.int .i64 0, .int .i64 0, .int .i64 0, .int .i64 0, .int .i64 0, .int .i64 0] 75 ?_; intro Z40 Z41 hg hb HB Z42 Z43; have Z44 := bn hg (bk Z7); have Z45 := bm hg (bk Z7); replace Z7 := bb (bk Z7) hb; have Z46 := Z45.out; have Z47 := Z44.out; obtain ⟨Z48, Z49, Z50, Z51, Z52, Z53, Z54, Z55, Z56, Z57, Z58, Z59⟩ := zc6 Z42; clear hg hb) | ((with_reducible refine gc 76 rfl ?_); refine gy (some 56) Tryz.func76 (impl_ProbeBoxOk.calls _ _ _ _ _ _ _ _ Z28.out) ?_; rintro Z60 hb; replace Z7 := bb (bk Z7) hb; replace Z42 := bb (o := .cells #[.int .i64 ((rd_T75 l0_1 Z21).f0), .int .i64 ((rd_T75 l0_1 Z21).f1), .int .i64 ((rd_T75 l0_1 Z21).f2), .int .i64 ((rd_T75 l0_1 Z21).f3), .int .i64 ((rd_T75 l0_1 Z21).f4), .int .i64 ((rd_T75 l0_1 Z21).f5)] 75 (0, 0)) (bp Z42) hb; replace HB := bs hb; clear hb))
           go_roundg Z23
           case measure => have := Z10.out; have := Z14.out; have := Z22.out; omega
           case rel => exact ⟨_, rs, H', ⟨by have := Z10.out; have := Z14.out; have := Z22.out; omega⟩, ⟨bk Z7⟩, ⟨bq⟩⟩
          ·obtain rfl := Option.some.inj H
           have Z30 : 0 ≤ (Z21 : Int) := od
           have Z31 : Z21 < (l0_1.length : Int) := od
           obtain ⟨Z32, Z33, Z34, Z35, Z36, Z37, Z38, Z39⟩ := at_T75 Z2.out Z21 Z30 Z31
           cases Z33
           replace Z34 := hc HB Z34
           replace Z35 := hc HB Z35
           replace Z36 := hc HB Z36
           replace Z37 := hc HB Z37
           replace Z38 := hc HB Z38
           replace Z39 := hc HB Z39
           replace Z30 := eq_true Z30
           replace Z31 := eq_true Z31
           go_wp2_with (first | ((with_reducible refine gd 6 rfl ?_); (try (refine gate_guard (by rfl) ?_; dsimp only)); refine bf 6 #[.int .i64 0, .int .i64 0, .int .i64 0, .int .i64 0, .int .i64 0, .int .i64 0] 75 ?_; intro Z40 Z41 hg hb HB Z42 Z43; have Z44 := bn hg (bk Z7); have Z45 := bm hg (bk Z7); replace Z7 := bb (bk Z7) hb; have Z46 := Z45.out; have Z47 := Z44.out; obtain ⟨Z48, Z49, Z50, Z51, Z52, Z53, Z54, Z55, Z56, Z57, Z58, Z59⟩ := zc6 Z42; clear hg hb) | ((with_reducible refine gc 76 rfl ?_); refine gy (some 56) Tryz.func76 (impl_ProbeBoxOk.calls _ _ _ _ _ _ _ _ Z28.out) ?_; rintro Z60 hb; replace Z7 := bb (bk Z7) hb; replace Z42 := bb (o := .cells #[.int .i64 ((rd_T75 l0_1 Z21).f0), .int .i64 ((rd_T75 l0_1 Z21).f1), .int .i64 ((rd_T75 l0_1 Z21).f2), .int .i64 ((rd_T75 l0_1 Z21).f3), .int .i64 ((rd_T75 l0_1 Z21).f4), .int .i64 ((rd_T75 l0_1 Z21).f5)] 75 (0, 0)) (bp Z42) hb; replace HB := bs hb; clear hb))
           go_ret
           exact ⟨re, bq⟩
         ·obtain rfl := Option.some.inj H
          go_wp2
          go_ret
          exact ⟨re, bq⟩
      all_goals first
       | have H' := ra H; clear H
         obtain ⟨Z20, Z21, Z22, Z23⟩ := zc2 Z7
         have Z24 : 0 ≤ (Z13 : Int) := od
         have Z25 : Z13 < (a0_0.size : Int) := od
         have Z26 := bt_at a0_0 Z13
         replace Z24 := eq_true Z24
         replace Z25 := eq_true Z25
         go_wp2
         go_roundg Z15
         case measure => have := Z10.out; have := Z14.out; omega
         case rel => exact ⟨_, rs, H', ⟨by have := Z10.out; have := Z14.out; omega⟩, ⟨bk Z7⟩, ⟨bq⟩⟩
       | obtain rfl := Option.some.inj H
         obtain ⟨Z25, Z26, Z27, Z28⟩ := zc2 Z7
         have Z29 : 0 ≤ (Z13 : Int) := od
         have Z30 : Z13 < (a0_0.size : Int) := od
         have Z31 := bt_at a0_0 Z13
         replace Z29 := eq_true Z29
         replace Z30 := eq_true Z30
         go_wp2
         go_ret
         exact ⟨re, bq⟩
theorem spec_l2NameOk.calls (k : Nat) (a0 : ByteArray) (r : Bool) (w : World) (h : spec_l2NameOk.f k a0 = some r) :
  Calls Tryz.prog 54 #[.string a0] w fun e w' => e = .returned (.bool r) ∧ Drawn0 w w' := by
 have H := h; unfold spec_l2NameOk.f at H
 clear h
 obtain ⟨Z0, Z1, H⟩ := bo H
 rcases ud H with ⟨rfl, Z2⟩ | ⟨rfl, Z2⟩ <;> have H := Z2
 ·have H' := ra H; clear H
  go_enter Tryz.func54, Tryz.ntmps54
  go_wp2_with (first | ((with_reducible refine gc 80 rfl ?_); refine gy (some 7) Tryz.func80 (spec_l1In.calls _ _ _ _ _ Z1.out) ?_; rintro w' ⟨nd, rfl⟩))
  go_loopg [3] k (fun kq v3 w' => ∃ (x3_1 : Int), v3 = .int .i64 x3_1 ∧ Aside0 (spec_l2NameOk.l0 kq a0 x3_1 = some r) ∧ Aside0 (kq ≤ k) ∧ Drawn0 w w')
  case atStart => exact ⟨_, rs, H', ⟨Nat.le_refl _⟩, d0⟩
  case round =>
   clear H'
   obtain ⟨Z3, rfl, HA, Z4, ⟨Z5, rfl⟩⟩ := hrel
   cases gk with
   | zero => exact absurd HA.out (by simp [spec_l2NameOk.l0])
   | succ Z6 =>
    have H := HA.out
    clear HA
    simp only [spec_l2NameOk.l0] at H
    rcases td H with ⟨Z7, H⟩ | ⟨Z7, H⟩
    obtain ⟨Z8, H⟩ := tn H
    rcases td H with ⟨Z9, H⟩ | ⟨Z9, H⟩
    rcases td H with ⟨Z10, H⟩ | ⟨Z10, H⟩
    rotate_left
    rcases td H with ⟨Z11, H⟩ | ⟨Z11, H⟩
    rcases td H with ⟨Z12, H⟩ | ⟨Z12, H⟩
    rotate_left
    rcases ed H with ⟨-, Z13, Z14, H⟩ | ⟨Z15, Z13, Z14, H⟩
    rotate_left
    rotate_left
    rcases ed H with ⟨-, Z12, Z13, H⟩ | ⟨Z14, Z12, Z13, H⟩
    rotate_left
    rotate_left
    rcases td H with ⟨Z10, H⟩ | ⟨Z10, H⟩
    rcases td H with ⟨Z11, H⟩ | ⟨Z11, H⟩
    rotate_left
    rcases ed H with ⟨-, Z12, Z13, H⟩ | ⟨Z14, Z12, Z13, H⟩
    rotate_left
    rotate_left
    rcases ed H with ⟨-, Z11, Z12, H⟩ | ⟨Z13, Z11, Z12, H⟩
    rotate_left
    rotate_left
    ·obtain rfl := Option.some.inj H
     go_wp2
     go_ret
     exact ⟨rs, d0⟩
    all_goals first
     | have H' := ra H; clear H
       have Z11 : 0 ≤ (Z3 : Int) := od
       have Z12 : Z3 < (a0.size : Int) := od
       have Z13 := bt_at a0 Z3
       replace Z11 := eq_true Z11
       replace Z12 := eq_true Z12
       go_wp2
       go_roundg Z6
       case measure => have := Z4.out; omega
       case rel => exact ⟨_, rs, H', ⟨by have := Z4.out; omega⟩, d0⟩
     | obtain rfl := Option.some.inj H
       have Z16 : 0 ≤ (Z3 : Int) := od
       have Z17 : Z3 < (a0.size : Int) := od
       have Z18 := bt_at a0 Z3
       replace Z16 := eq_true Z16
       replace Z17 := eq_true Z17
       go_wp2
       go_ret
       exact ⟨rs, d0⟩
 ·obtain rfl := Option.some.inj H
  go_enter Tryz.func54, Tryz.ntmps54
  go_wp2_with (first | ((with_reducible refine gc 80 rfl ?_); refine gy (some 7) Tryz.func80 (spec_l1In.calls _ _ _ _ _ Z1.out) ?_; rintro w' ⟨nd, rfl⟩))
  go_ret
  exact ⟨rs, d0⟩
theorem spec_ProbeBoxOk.calls (a0_0 a0_1 a0_2 a0_3 a0_4 a0_5 : Int) (r : Bool) (w : World) (h : spec_ProbeBoxOk.f a0_0 a0_1 a0_2 a0_3 a0_4 a0_5 = some r) :
  Calls Tryz.prog 55 #[.agg #[.int .i64 a0_0, .int .i64 a0_1, .int .i64 a0_2, .int .i64 a0_3, .int .i64 a0_4, .int .i64 a0_5]] w fun e w' => e = .returned (.bool r) ∧ Below w.heap.size w w' := by
 have Z0 := Tryz.underlying75
 have HB := ra (Below.refl w.heap.size w)
 have H := h; unfold spec_ProbeBoxOk.f at H
 clear h
 obtain ⟨Z1, Z2, H⟩ := bo H
 rcases ud H with ⟨rfl, Z3⟩ | ⟨rfl, Z3⟩ <;> have H := Z3
 obtain ⟨Z4, Z5, H⟩ := bo H
 rcases ud H with ⟨rfl, Z6⟩ | ⟨rfl, Z6⟩ <;> have H := Z6
 obtain ⟨Z7, Z8, H⟩ := bo H
 rcases ud H with ⟨rfl, Z9⟩ | ⟨rfl, Z9⟩ <;> have H := Z9
 rcases td H with ⟨Z10, H⟩ | ⟨Z10, H⟩
 obtain ⟨Z11, Z12, H⟩ := bo H
 rcases ud H with ⟨rfl, Z13⟩ | ⟨rfl, Z13⟩ <;> have H := Z13
 rotate_left
 rotate_left
 rotate_left
 rotate_left
 ·obtain rfl := Option.some.inj H
  go_enter Tryz.func55, Tryz.ntmps55
  go_wp2_with (first | ((with_reducible refine gd 1 rfl ?_); refine bd 1 #[.int .i64 a0_0, .int .i64 a0_1, .int .i64 a0_2, .int .i64 a0_3, .int .i64 a0_4, .int .i64 a0_5] 75 ?_; intro Z7 Z8 HB Z9 Z10; obtain ⟨Z11, Z12, Z13, Z14, Z15, Z16, Z17, Z18, Z19, Z20, Z21, Z22⟩ := zc6 Z9) | ((with_reducible refine gc 80 rfl ?_); refine gy (some 5) Tryz.func80 (spec_l1In.calls _ _ _ _ _ Z2.out) ?_; rintro w' ⟨nd, rfl⟩) | (go_at_call 80; (with_reducible refine (spec_l1In.calls _ _ _ _ _ Z5.out).mono ?_); rintro e w' ⟨rfl, ⟨nd, rfl⟩⟩))
  go_ret
  exact ⟨re, bq⟩
 ·obtain rfl := Option.some.inj H
  go_enter Tryz.func55, Tryz.ntmps55
  go_wp2_with (first | ((with_reducible refine gd 1 rfl ?_); refine bd 1 #[.int .i64 a0_0, .int .i64 a0_1, .int .i64 a0_2, .int .i64 a0_3, .int .i64 a0_4, .int .i64 a0_5] 75 ?_; intro Z4 Z5 HB Z6 Z7; obtain ⟨Z8, Z9, Z10, Z11, Z12, Z13, Z14, Z15, Z16, Z17, Z18, Z19⟩ := zc6 Z6) | ((with_reducible refine gc 80 rfl ?_); refine gy (some 5) Tryz.func80 (spec_l1In.calls _ _ _ _ _ Z2.out) ?_; rintro w' ⟨nd, rfl⟩))
  go_ret
  exact ⟨re, bq⟩
 all_goals first
  | obtain rfl := Option.some.inj H
    go_enter Tryz.func55, Tryz.ntmps55
    go_wp2_with (first | ((with_reducible refine gd 1 rfl ?_); refine bd 1 #[.int .i64 a0_0, .int .i64 a0_1, .int .i64 a0_2, .int .i64 a0_3, .int .i64 a0_4, .int .i64 a0_5] 75 ?_; intro Z14 Z15 HB Z16 Z17; obtain ⟨Z18, Z19, Z20, Z21, Z22, Z23, Z24, Z25, Z26, Z27, Z28, Z29⟩ := zc6 Z16) | ((with_reducible refine gc 80 rfl ?_); refine gy (some 5) Tryz.func80 (spec_l1In.calls _ _ _ _ _ Z2.out) ?_; rintro w' ⟨nd, rfl⟩) | (go_at_call 80; (with_reducible refine (spec_l1In.calls _ _ _ _ _ Z5.out).mono ?_); rintro e w' ⟨rfl, ⟨nd, rfl⟩⟩) | (go_at_call 80; (with_reducible refine (spec_l1In.calls _ _ _ _ _ Z8.out).mono ?_); rintro e w' ⟨rfl, ⟨nd, rfl⟩⟩) | (go_at_call 80; (with_reducible refine (spec_l1In.calls _ _ _ _ _ Z12.out).mono ?_); rintro e w' ⟨rfl, ⟨nd, rfl⟩⟩))
    go_ret
    exact ⟨re, bq⟩
  | obtain rfl := Option.some.inj H
    go_enter Tryz.func55, Tryz.ntmps55
    go_wp2_with (first | ((with_reducible refine gd 1 rfl ?_); refine bd 1 #[.int .i64 a0_0, .int .i64 a0_1, .int .i64 a0_2, .int .i64 a0_3, .int .i64 a0_4, .int .i64 a0_5] 75 ?_; intro Z11 Z12 HB Z13 Z14; obtain ⟨Z15, Z16, Z17, Z18, Z19, Z20, Z21, Z22, Z23, Z24, Z25, Z26⟩ := zc6 Z13) | ((with_reducible refine gc 80 rfl ?_); refine gy (some 5) Tryz.func80 (spec_l1In.calls _ _ _ _ _ Z2.out) ?_; rintro w' ⟨nd, rfl⟩) | (go_at_call 80; (with_reducible refine (spec_l1In.calls _ _ _ _ _ Z5.out).mono ?_); rintro e w' ⟨rfl, ⟨nd, rfl⟩⟩) | (go_at_call 80; (with_reducible refine (spec_l1In.calls _ _ _ _ _ Z8.out).mono ?_); rintro e w' ⟨rfl, ⟨nd, rfl⟩⟩))
    go_ret
    exact ⟨re, bq⟩
theorem spec_ProbeTubeOk.calls (k : Nat) (a0_0 : ByteArray) (A0_1 : Option Addr) (c0_1 : Nat) (l0_1 : List (S75)) (r : Bool) (w : World) (hr0_1 : Kd.C k75 w A0_1 l0_1.length l0_1) (hc0_1 : l0_1.length ≤ c0_1) (h : spec_ProbeTubeOk.f k a0_0 l0_1 = some r) :
  Calls Tryz.prog 17 #[.agg #[.string a0_0, .slice A0_1 l0_1.length c0_1]] w fun e w' => e = .returned (.bool r) ∧ Below w.heap.size w w' := by
 have Z0 := Tryz.underlying32
 have Z1 := Tryz.underlying75
 have Z2 := ra hr0_1
 have Z3 := ra hc0_1
 clear hr0_1 hc0_1
 have HB := ra (Below.refl w.heap.size w)
 have H := h; unfold spec_ProbeTubeOk.f at H
 clear h
 have Z4 := ra H; clear H
 go_enter Tryz.func17, Tryz.ntmps17
 go_upto_region 1 with (first | ((with_reducible refine gd 1 rfl ?_); (try (refine gate_guard (by rfl) ?_; dsimp only)); refine bd 1 #[.string a0_0, .slice A0_1 l0_1.length c0_1] 32 ?_; intro Z5 Z6 HB Z7 Z8))
 (try simp only [Act.put, List.setIfInBounds_toArray, List.set_cons_zero, List.set_cons_succ])
 go_cut [13] (fun v13 wc => ∃ (kq : Nat) (x13_1 : Bool), v13 = .bool x13_1 ∧ Aside0 (spec_ProbeTubeOk.j0 kq x13_1 a0_0 l0_1 = some r) ∧ Aside0 (kq ≤ k) ∧ Aside0 (wc.heap[Z5]? = some (.cells #[.string a0_0, (.slice A0_1 l0_1.length c0_1)] 32 (0, 0))) ∧ Aside0 (Below w.heap.size w wc))
 case first =>
  have H := Z4.out
  clear Z4
  obtain ⟨Z9, Z10, H⟩ := bo H
  rcases ud H with ⟨rfl, Z11⟩ | ⟨rfl, Z11⟩ <;> have H := Z11
  rotate_left
  rotate_left
  all_goals
   have H' := ra H; clear H
   obtain ⟨Z12, Z13, Z14, Z15⟩ := zc2 Z7
   go_wp2_with (first | ((with_reducible refine gc 54 rfl ?_); refine gy (some 6) Tryz.func54 (spec_l2NameOk.calls _ _ _ _ Z10.out) ?_; rintro w' ⟨nd, rfl⟩))
   go_meet
   case rel => exact ⟨_, _, rs, H', ⟨by first | omega | exact Nat.le_refl _⟩, ⟨bk Z7⟩, ⟨bq⟩⟩
 case rest =>
  clear Z4
  obtain ⟨kq, Z9, rfl, HA, Z10, Z7, HB⟩ := hcut
  cases kq with
  | zero => exact absurd HA.out (by simp [spec_ProbeTubeOk.j0])
  | succ Z11 =>
   have H := HA.out
   clear HA
   simp only [spec_ProbeTubeOk.j0] at H
   rcases ud H with ⟨rfl, Z12⟩ | ⟨rfl, Z12⟩ <;> have H := Z12
   ·obtain rfl := Option.some.inj H
    go_wp2
    go_ret
    exact ⟨re, bq⟩
   ·have H' := ra H; clear H
    go_wp2
    go_loopg [3] Z11 (fun kq v3 w' => ∃ (x3_2 : Int), v3 = .int .i64 x3_2 ∧ Aside0 (spec_ProbeTubeOk.l0 kq x3_2 a0_0 l0_1 = some r) ∧ Aside0 (kq ≤ Z11) ∧ Aside0 (w'.heap[Z5]? = some (.cells #[.string a0_0, (.slice A0_1 l0_1.length c0_1)] 32 (0, 0))) ∧ Aside0 (Below w.heap.size w w'))
    case atStart => exact ⟨_, rs, H', ⟨Nat.le_refl _⟩, ⟨bk Z7⟩, ⟨bq⟩⟩
    case round =>
     clear H'
     obtain ⟨Z13, rfl, HA, Z14, Z7, HB⟩ := hrel
     cases gk with
     | zero => exact absurd HA.out (by simp [spec_ProbeTubeOk.l0])
     | succ Z15 =>
      have H := HA.out
      clear HA
      simp only [spec_ProbeTubeOk.l0] at H
      rcases td H with ⟨Z16, H⟩ | ⟨Z16, H⟩
      ·obtain ⟨Z17, H⟩ := tn H
       obtain ⟨Z18, Z19, H⟩ := bo H
       rcases ud H with ⟨rfl, Z20⟩ | ⟨rfl, Z20⟩ <;> have H := Z20
       ·have H' := ra H; clear H
        obtain ⟨Z21, Z22, Z23, Z24⟩ := zc2 Z7
        have Z25 : 0 ≤ (Z13 : Int) := od
        have Z26 : Z13 < (l0_1.length : Int) := od
        obtain ⟨Z27, Z28, Z29, Z30, Z31, Z32, Z33, Z34⟩ := at_T75 Z2.out Z13 Z25 Z26
        cases Z28
        replace Z29 := hc HB Z29
        replace Z30 := hc HB Z30
        replace Z31 := hc HB Z31
        replace Z32 := hc HB Z32
        replace Z33 := hc HB Z33
        replace Z34 := hc HB Z34
        replace Z25 := eq_true Z25
        replace Z26 := eq_true Z26
        go_wp2_with (first | ((with_reducible refine gc 55 rfl ?_); refine gy (some 26) Tryz.func55 (spec_ProbeBoxOk.calls _ _ _ _ _ _ _ _ Z19.out) ?_; rintro Z35 hb; replace Z7 := bb (bk Z7) hb; replace HB := bs hb; clear hb))
        go_roundg Z15
        case measure => have := Z10.out; have := Z14.out; omega
        case rel => exact ⟨_, rs, H', ⟨by have := Z10.out; have := Z14.out; omega⟩, ⟨bk Z7⟩, ⟨bq⟩⟩
       ·obtain rfl := Option.some.inj H
        obtain ⟨Z21, Z22, Z23, Z24⟩ := zc2 Z7
        have Z25 : 0 ≤ (Z13 : Int) := od
        have Z26 : Z13 < (l0_1.length : Int) := od
        obtain ⟨Z27, Z28, Z29, Z30, Z31, Z32, Z33, Z34⟩ := at_T75 Z2.out Z13 Z25 Z26
        cases Z28
        replace Z29 := hc HB Z29
        replace Z30 := hc HB Z30
        replace Z31 := hc HB Z31
        replace Z32 := hc HB Z32
        replace Z33 := hc HB Z33
        replace Z34 := hc HB Z34
        replace Z25 := eq_true Z25
        replace Z26 := eq_true Z26
        go_wp2_with (first | ((with_reducible refine gc 55 rfl ?_); refine gy (some 26) Tryz.func55 (spec_ProbeBoxOk.calls _ _ _ _ _ _ _ _ Z19.out) ?_; rintro Z35 hb; replace Z7 := bb (bk Z7) hb; replace HB := bs hb; clear hb))
        go_ret
        exact ⟨re, bq⟩
      ·obtain rfl := Option.some.inj H
       obtain ⟨Z17, Z18, Z19, Z20⟩ := zc2 Z7
       go_wp2
       go_ret
       exact ⟨re, bq⟩
def spec_ProbeSkyOk.T6 : Bool × List (List Nat × List Nat) := (true, [([], []), ([], []), ([0, 1], [0, 1]), ([2], [2]), ([3], [3]), ([4], [4]), ([5, 4], [5]), ([6], [6]), ([7, 6], [6, 7]), ([8, 6, 6], [6, 8]), ([9], [9]), ([9], [9]), ([11, 9], [9, 11]), ([10, 12, 9], [9, 10, 12]), ([13, 9], [9, 13]), ([14, 9], [9, 14]), ([9], [9]), ([9], [9]), ([16, 17, 9], [9, 16, 17]), ([18, 9], [9, 18]), ([19, 9], [9, 19]), ([15, 20, 9], [9, 15, 20]), ([9, 21, 6], [6, 9, 21]), ([6, 22], [6, 22])])
def spec_ProbeSkyOk.B6 : List Nat := [0, 0, 3, 7, 15, 31, 63, 127, 255, 511, 1023, 1023, 3071, 8191, 16383, 32767, 1023, 1023, 197631, 459775, 984063, 2097151, 4194303, 8388607]
theorem spec_ProbeSkyOk.tab6 : rtab .any (opsOf Tryz.f45 6) = spec_ProbeSkyOk.T6 := by kernel_rfl
theorem spec_ProbeSkyOk.bits6 : waitsOk spec_ProbeSkyOk.T6.2 spec_ProbeSkyOk.B6 = true := by kernel_rfl
theorem spec_ProbeSkyOk.calls (k : Nat) (A0 : Option Addr) (c0 : Nat) (l0 : List (S32)) (r : Bool) (w : World) (hr0 : Kd.C k32 w A0 l0.length l0) (hc0 : l0.length ≤ c0) (h : spec_ProbeSkyOk.f k l0 = some r) :
  Calls Tryz.prog 45 #[.slice A0 l0.length c0] w fun e w' => e = .returned (.bool r) ∧ Below w.heap.size w w' := by
 have Z0 := Tryz.underlying32
 have Z1 := ra hr0
 have Z2 := ra hc0
 clear hr0 hc0
 have HB := ra (Below.refl w.heap.size w)
 have H := h; unfold spec_ProbeSkyOk.f at H
 clear h
 rcases sd H with ⟨Z3, Z4, H⟩ | ⟨Z3, Z4, H⟩
 ·have Z5 : decide (24 < l0.length) = true := decide_eq_true (by omega)
  clear Z3
  obtain rfl := Option.some.inj H
  go_enter Tryz.func45, Tryz.ntmps45
  go_wp2
  go_ret
  exact ⟨re, bq⟩
 ·have Z5 : decide (24 < l0.length) = false := decide_eq_false (by omega)
  clear Z3
  have H' := ra H; clear H
  go_enter Tryz.func45, Tryz.ntmps45
  go_wp2
  go_loopg [3] k (fun kq v3 w' => ∃ (x3_1 : Int), v3 = .int .i64 x3_1 ∧ Aside0 (spec_ProbeSkyOk.l0 kq l0 x3_1 = some r) ∧ Aside0 (kq ≤ k) ∧ Aside0 (Below w.heap.size w w'))
  case atStart => exact ⟨_, rs, H', ⟨Nat.le_refl _⟩, ⟨bq⟩⟩
  case round =>
   clear H'
   try clear Z3
   try clear Z4
   try clear Z5
   obtain ⟨Z6, rfl, HA, Z7, HB⟩ := hrel
   cases gk with
   | zero => exact absurd HA.out (by simp [spec_ProbeSkyOk.l0])
   | succ Z8 =>
    have H := HA.out
    clear HA
    simp only [spec_ProbeSkyOk.l0] at H
    rcases td H with ⟨Z9, H⟩ | ⟨Z9, H⟩
    ·obtain ⟨Z10, H⟩ := tn H
     obtain ⟨Z11, Z12, H⟩ := bo H
     rcases ud H with ⟨rfl, Z13⟩ | ⟨rfl, Z13⟩ <;> have H := Z13
     ·rcases td H with ⟨Z14, H⟩ | ⟨Z14, H⟩
      ·obtain ⟨Z15, Z16⟩ : ∃ j_ : Int, (wrap64 (Z6 - 1)) = j_ := ⟨_, rfl⟩
       replace H : (if 0 ≤ (Z15) then (if (Z15) < (l0.length : Int) then (if ((Op.bytesLess (((rd_T32 l0 (Z15)).f0).toList) (((rd_T32 l0 Z6).f0).toList)) = true) then (spec_ProbeSkyOk.l0 Z8 l0 (wrap64 (Z6 + 1))) else (some false)) else (none)) else (none)) = some r := by first | (rw [Z16] at H; exact H) | (simp only [Z16] at H ⊢; exact H)
       (try rw [Z16] at Z12)
       have Z17 : (IntKind.i64.wrap (Z6 - 1)) = Z15 := (i64_w _).trans Z16
       obtain ⟨Z18, H⟩ := tn H
       obtain ⟨Z19, H⟩ := tn H
       by_cases Z20 : ((Op.bytesLess (((rd_T32 l0 (Z15)).f0).toList) (((rd_T32 l0 Z6).f0).toList)) = true)
       ·rw [if_pos Z20] at H
        have Z21 : (Op.bytesLess (((rd_T32 l0 (Z15)).f0).toList) (((rd_T32 l0 Z6).f0).toList)) = true := Z20
        clear Z20
        have H' := ra H; clear H
        try go_wp2
        have _ := ra (below_drew1 HB.out)
        clear HB
        rename_i HB
        have Z22 : 0 ≤ (Z6 : Int) := od
        have Z23 : Z6 < (l0.length : Int) := od
        obtain ⟨Z24, Z25, Z26, Z27, Z28, Z29, Z30, Z31⟩ := at_T32 Z1.out Z6 Z22 Z23
        have Z32 := Z29
        have Z33 := Z28
        cases Z27
        replace Z28 := hc HB Z28
        replace Z29 := hc HB Z29
        have Z34 := ra Z31
        have Z35 := ra Z30
        clear Z31 Z30
        replace Z22 := eq_true Z22
        replace Z23 := eq_true Z23
        have Z36 : 0 ≤ ((Z15) : Int) := od
        have Z37 : (Z15) < (l0.length : Int) := od
        obtain ⟨Z38, Z39, Z40, Z41, Z42, Z43, Z44, Z45⟩ := at_T32 Z1.out (Z15) Z36 Z37
        have Z46 := Z43
        have Z47 := Z42
        obtain rfl : Z24 = Z38 := (by injection Z41)
        replace Z42 := hc HB Z42
        replace Z43 := hc HB Z43
        have Z48 := ra Z45
        have Z49 := ra Z44
        clear Z45 Z44
        replace Z36 := eq_true Z36
        replace Z37 := eq_true Z37
        have Z50 : 0 ≤ (Z6 : Int) := od
        have Z51 : Z6 < (l0.length : Int) := od
        obtain ⟨Z52, Z53, Z54, Z55, Z56, Z57, Z58, Z59⟩ := at_T32 Z1.out Z6 Z50 Z51
        have Z60 := Z57
        have Z61 := Z56
        obtain rfl : Z24 = Z52 := (by injection Z55)
        replace Z56 := hc HB Z56
        replace Z57 := hc HB Z57
        have Z62 := ra Z59
        have Z63 := ra Z58
        clear Z59 Z58
        replace Z50 := eq_true Z50
        replace Z51 := eq_true Z51
        refine start_ (n := 24) (S := fun w' => w'.cell? (Z24.add ((Z6).toNat * 2)) = some (.string ((rd_T32 l0 Z6).f0)) ∧ w'.cell? ⟨(Z24.add ((Z6).toNat * 2)).block, (Z24.add ((Z6).toNat * 2)).off + 1, none⟩ = some (.slice Z25 ((rd_T32 l0 Z6).f1).length Z26) ∧ w'.cell? (Z24.add (((Z15)).toNat * 2)) = some (.string ((rd_T32 l0 (Z15)).f0)) ∧ w'.cell? ⟨(Z24.add (((Z15)).toNat * 2)).block, (Z24.add (((Z15)).toNat * 2)).off + 1, none⟩ = some (.slice Z39 ((rd_T32 l0 (Z15)).f1).length Z40) ∧ w'.cell? (Z24.add ((Z6).toNat * 2)) = some (.string ((rd_T32 l0 Z6).f0)) ∧ w'.cell? ⟨(Z24.add ((Z6).toNat * 2)).block, (Z24.add ((Z6).toNat * 2)).off + 1, none⟩ = some (.slice Z53 ((rd_T32 l0 Z6).f1).length Z54)) (ds := []) (bl 24 0) (by kernel_rfl) rfl rfl ⟨(hc HB Z33), (hc HB Z32), (hc HB Z47), (hc HB Z46), (hc HB Z61), (hc HB Z60)⟩ (fun hHeld => ?_); refine with_tabW spec_ProbeSkyOk.tab6 spec_ProbeSkyOk.bits6 (fun HT_ HW_ => ?_)
        generalize wr.drew = Z64 at HB Z34 Z48 Z62 Z28 Z29 Z42 Z43 Z56 Z57 hHeld ⊢
        refine pu 0 13 (bl 24 1) ?_
        refine pu 1 14 (bl 24 3) ?_
        refine pu 2 15 (bl 24 7) ?_
        refine tk 3 16 (bl 24 15) ?_ hHeld
        refine oe 4 17 (bl 24 31) (fun K hK => ?_)
        refine gs Tryz.func17 #[.agg #[.string ((rd_T32 l0 Z6).f0), .slice Z25 ((rd_T32 l0 Z6).f1).length Z26]] ?_
        with_reducible refine (spec_ProbeTubeOk.calls Z8 ((rd_T32 l0 Z6).f0) _ _ ((rd_T32 l0 Z6).f1) true _ ?side1 ?side2 Z12.out).mono ?_
        (case side1 => exact sc Z34)
        (case side2 => exact Z35.out)
        rintro e Z65 ⟨rfl, hb⟩
        refine ⟨_, rfl, ?_⟩
        have _ := bs hb
        clear HB
        rename_i HB
        (try clear hb)
        refine hK.out _ _ ⟨(hc HB Z33), (hc HB Z32), (hc HB Z47), (hc HB Z46), (hc HB Z61), (hc HB Z60)⟩ (fun hHeld => ?_)
        clear hK K
        refine nm 17 ?_
        refine pu 5 18 (bl 24 63) ?_
        refine pu 6 19 (bl 24 127) ?_
        refine pu 7 20 (bl 24 255) ?_
        refine pu 8 21 (bl 24 511) ?_
        refine pu 9 22 (bl 24 1023) ?_
        refine pu 10 23 (bl 24 2047) ?_
        refine pu 11 24 (bl 24 4095) ?_
        refine pu 12 25 (bl 24 8191) ?_
        refine pu 13 26 (bl 24 16383) ?_
        refine pu 14 27 (bl 24 32767) ?_
        refine pu 16 29 (bl 24 98303) ?_
        refine pu 17 30 (bl 24 229375) ?_
        refine pu 18 31 (bl 24 491519) ?_
        refine pu 19 32 (bl 24 1015807) ?_
        refine tk 15 28 (bl 24 1048575) ?_ hHeld
        refine tk 20 33 (bl 24 2097151) ?_ hHeld
        refine pu 21 34 (bl 24 4194303) ?_
        refine pu 22 35 (bl 24 8388607) ?_
        refine pu 23 36 (bl 24 16777215) ?_
        refine done_ (done_of HT_.out (by kernel_rfl)) ?_
        try go_wp2
        go_roundg Z8
        case measure => have := Z7.out; omega
        case rel => exact ⟨_, rs, H', ⟨by have := Z7.out; omega⟩, ⟨bq⟩⟩
       ·rw [if_neg Z20] at H
        have Z21 : (Op.bytesLess (((rd_T32 l0 (Z15)).f0).toList) (((rd_T32 l0 Z6).f0).toList)) = false := by simpa using Z20
        clear Z20
        obtain rfl := Option.some.inj H
        try go_wp2
        have _ := ra (below_drew1 HB.out)
        clear HB
        rename_i HB
        have Z22 : 0 ≤ (Z6 : Int) := od
        have Z23 : Z6 < (l0.length : Int) := od
        obtain ⟨Z24, Z25, Z26, Z27, Z28, Z29, Z30, Z31⟩ := at_T32 Z1.out Z6 Z22 Z23
        have Z32 := Z29
        have Z33 := Z28
        cases Z27
        replace Z28 := hc HB Z28
        replace Z29 := hc HB Z29
        have Z34 := ra Z31
        have Z35 := ra Z30
        clear Z31 Z30
        replace Z22 := eq_true Z22
        replace Z23 := eq_true Z23
        have Z36 : 0 ≤ ((Z15) : Int) := od
        have Z37 : (Z15) < (l0.length : Int) := od
        obtain ⟨Z38, Z39, Z40, Z41, Z42, Z43, Z44, Z45⟩ := at_T32 Z1.out (Z15) Z36 Z37
        have Z46 := Z43
        have Z47 := Z42
        obtain rfl : Z24 = Z38 := (by injection Z41)
        replace Z42 := hc HB Z42
        replace Z43 := hc HB Z43
        have Z48 := ra Z45
        have Z49 := ra Z44
        clear Z45 Z44
        replace Z36 := eq_true Z36
        replace Z37 := eq_true Z37
        have Z50 : 0 ≤ (Z6 : Int) := od
        have Z51 : Z6 < (l0.length : Int) := od
        obtain ⟨Z52, Z53, Z54, Z55, Z56, Z57, Z58, Z59⟩ := at_T32 Z1.out Z6 Z50 Z51
        have Z60 := Z57
        have Z61 := Z56
        obtain rfl : Z24 = Z52 := (by injection Z55)
        replace Z56 := hc HB Z56
        replace Z57 := hc HB Z57
        have Z62 := ra Z59
        have Z63 := ra Z58
        clear Z59 Z58
        replace Z50 := eq_true Z50
        replace Z51 := eq_true Z51
        refine start_ (n := 24) (S := fun w' => w'.cell? (Z24.add ((Z6).toNat * 2)) = some (.string ((rd_T32 l0 Z6).f0)) ∧ w'.cell? ⟨(Z24.add ((Z6).toNat * 2)).block, (Z24.add ((Z6).toNat * 2)).off + 1, none⟩ = some (.slice Z25 ((rd_T32 l0 Z6).f1).length Z26) ∧ w'.cell? (Z24.add (((Z15)).toNat * 2)) = some (.string ((rd_T32 l0 (Z15)).f0)) ∧ w'.cell? ⟨(Z24.add (((Z15)).toNat * 2)).block, (Z24.add (((Z15)).toNat * 2)).off + 1, none⟩ = some (.slice Z39 ((rd_T32 l0 (Z15)).f1).length Z40) ∧ w'.cell? (Z24.add ((Z6).toNat * 2)) = some (.string ((rd_T32 l0 Z6).f0)) ∧ w'.cell? ⟨(Z24.add ((Z6).toNat * 2)).block, (Z24.add ((Z6).toNat * 2)).off + 1, none⟩ = some (.slice Z53 ((rd_T32 l0 Z6).f1).length Z54)) (ds := []) (bl 24 0) (by kernel_rfl) rfl rfl ⟨(hc HB Z33), (hc HB Z32), (hc HB Z47), (hc HB Z46), (hc HB Z61), (hc HB Z60)⟩ (fun hHeld => ?_); refine with_tabW spec_ProbeSkyOk.tab6 spec_ProbeSkyOk.bits6 (fun HT_ HW_ => ?_)
        generalize wr.drew = Z64 at HB Z34 Z48 Z62 Z28 Z29 Z42 Z43 Z56 Z57 hHeld ⊢
        refine pu 0 13 (bl 24 1) ?_
        refine pu 1 14 (bl 24 3) ?_
        refine pu 2 15 (bl 24 7) ?_
        refine tk 3 16 (bl 24 15) ?_ hHeld
        refine oe 4 17 (bl 24 31) (fun K hK => ?_)
        refine gs Tryz.func17 #[.agg #[.string ((rd_T32 l0 Z6).f0), .slice Z25 ((rd_T32 l0 Z6).f1).length Z26]] ?_
        with_reducible refine (spec_ProbeTubeOk.calls Z8 ((rd_T32 l0 Z6).f0) _ _ ((rd_T32 l0 Z6).f1) true _ ?side1 ?side2 Z12.out).mono ?_
        (case side1 => exact sc Z34)
        (case side2 => exact Z35.out)
        rintro e Z65 ⟨rfl, hb⟩
        refine ⟨_, rfl, ?_⟩
        have _ := bs hb
        clear HB
        rename_i HB
        (try clear hb)
        refine hK.out _ _ ⟨(hc HB Z33), (hc HB Z32), (hc HB Z47), (hc HB Z46), (hc HB Z61), (hc HB Z60)⟩ (fun hHeld => ?_)
        clear hK K
        refine nm 17 ?_
        refine pu 5 18 (bl 24 63) ?_
        refine pu 6 19 (bl 24 127) ?_
        refine pu 7 20 (bl 24 255) ?_
        refine pu 8 21 (bl 24 511) ?_
        refine pu 9 22 (bl 24 1023) ?_
        refine pu 10 23 (bl 24 2047) ?_
        refine pu 11 24 (bl 24 4095) ?_
        refine pu 12 25 (bl 24 8191) ?_
        refine pu 13 26 (bl 24 16383) ?_
        refine pu 14 27 (bl 24 32767) ?_
        refine pu 16 29 (bl 24 98303) ?_
        refine pu 17 30 (bl 24 229375) ?_
        refine pu 18 31 (bl 24 491519) ?_
        refine pu 19 32 (bl 24 1015807) ?_
        refine tk 15 28 (bl 24 1048575) ?_ hHeld
        refine tk 20 33 (bl 24 2097151) ?_ hHeld
        refine pu 21 34 (bl 24 4194303) ?_
        refine pu 22 35 (bl 24 8388607) ?_
        refine pu 23 36 (bl 24 16777215) ?_
        refine done_ (done_of HT_.out (by kernel_rfl)) ?_
        try go_wp2
        go_ret
        exact ⟨by first | rfl | (simp [errW_none, errW_some] <;> rfl) | (simp only [← Z16]; first | rfl | (simp [errW_none, errW_some] <;> rfl)) | (simp [*, errW_none, errW_some] <;> rfl), bq⟩
      ·have H' := ra H; clear H
       try go_wp2
       have _ := ra (below_drew1 HB.out)
       clear HB
       rename_i HB
       have Z15 : 0 ≤ (Z6 : Int) := od
       have Z16 : Z6 < (l0.length : Int) := od
       obtain ⟨Z17, Z18, Z19, Z20, Z21, Z22, Z23, Z24⟩ := at_T32 Z1.out Z6 Z15 Z16
       have Z25 := Z22
       have Z26 := Z21
       cases Z20
       replace Z21 := hc HB Z21
       replace Z22 := hc HB Z22
       have Z27 := ra Z24
       have Z28 := ra Z23
       clear Z24 Z23
       replace Z15 := eq_true Z15
       replace Z16 := eq_true Z16
       refine start_ (n := 24) (S := fun w' => w'.cell? (Z17.add ((Z6).toNat * 2)) = some (.string ((rd_T32 l0 Z6).f0)) ∧ w'.cell? ⟨(Z17.add ((Z6).toNat * 2)).block, (Z17.add ((Z6).toNat * 2)).off + 1, none⟩ = some (.slice Z18 ((rd_T32 l0 Z6).f1).length Z19)) (ds := []) (bl 24 0) (by kernel_rfl) rfl rfl ⟨(hc HB Z26), (hc HB Z25)⟩ (fun hHeld => ?_); refine with_tabW spec_ProbeSkyOk.tab6 spec_ProbeSkyOk.bits6 (fun HT_ HW_ => ?_)
       generalize wr.drew = Z29 at HB Z27 Z21 Z22 hHeld ⊢
       refine pu 0 13 (bl 24 1) ?_
       refine pu 1 14 (bl 24 3) ?_
       refine pu 2 15 (bl 24 7) ?_
       refine tk 3 16 (bl 24 15) ?_ hHeld
       refine oe 4 17 (bl 24 31) (fun K hK => ?_)
       refine gs Tryz.func17 #[.agg #[.string ((rd_T32 l0 Z6).f0), .slice Z18 ((rd_T32 l0 Z6).f1).length Z19]] ?_
       with_reducible refine (spec_ProbeTubeOk.calls Z8 ((rd_T32 l0 Z6).f0) _ _ ((rd_T32 l0 Z6).f1) true _ ?side1 ?side2 Z12.out).mono ?_
       (case side1 => exact sc Z27)
       (case side2 => exact Z28.out)
       rintro e Z30 ⟨rfl, hb⟩
       refine ⟨_, rfl, ?_⟩
       have _ := bs hb
       clear HB
       rename_i HB
       (try clear hb)
       refine hK.out _ _ ⟨(hc HB Z26), (hc HB Z25)⟩ (fun hHeld => ?_)
       clear hK K
       refine nm 17 ?_
       refine pu 5 18 (bl 24 63) ?_
       refine pu 6 19 (bl 24 127) ?_
       refine pu 7 20 (bl 24 255) ?_
       refine pu 8 21 (bl 24 511) ?_
       refine pu 9 22 (bl 24 1023) ?_
       refine pv 10 23 (bl 24 2047) ?_
       refine pv 11 24 (bl 24 4095) ?_
       refine pv 12 25 (bl 24 8191) ?_
       refine pv 13 26 (bl 24 16383) ?_
       refine pv 14 27 (bl 24 32767) ?_
       refine pv 15 28 (bl 24 65535) ?_
       refine pv 16 29 (bl 24 131071) ?_
       refine pv 17 30 (bl 24 262143) ?_
       refine pv 18 31 (bl 24 524287) ?_
       refine pv 19 32 (bl 24 1048575) ?_
       refine pv 20 33 (bl 24 2097151) ?_
       refine pv 21 34 (bl 24 4194303) ?_
       refine pu 22 35 (bl 24 8388607) ?_
       refine pu 23 36 (bl 24 16777215) ?_
       refine done_ (done_of HT_.out (by kernel_rfl)) ?_
       try go_wp2
       go_roundg Z8
       case measure => have := Z7.out; omega
       case rel => exact ⟨_, rs, H', ⟨by have := Z7.out; omega⟩, ⟨bq⟩⟩
     ·obtain rfl := Option.some.inj H
      try go_wp2
      have _ := ra (below_drew1 HB.out)
      clear HB
      rename_i HB
      have Z14 : 0 ≤ (Z6 : Int) := od
      have Z15 : Z6 < (l0.length : Int) := od
      obtain ⟨Z16, Z17, Z18, Z19, Z20, Z21, Z22, Z23⟩ := at_T32 Z1.out Z6 Z14 Z15
      have Z24 := Z21
      have Z25 := Z20
      cases Z19
      replace Z20 := hc HB Z20
      replace Z21 := hc HB Z21
      have Z26 := ra Z23
      have Z27 := ra Z22
      clear Z23 Z22
      replace Z14 := eq_true Z14
      replace Z15 := eq_true Z15
      refine start_ (n := 24) (S := fun w' => w'.cell? (Z16.add ((Z6).toNat * 2)) = some (.string ((rd_T32 l0 Z6).f0)) ∧ w'.cell? ⟨(Z16.add ((Z6).toNat * 2)).block, (Z16.add ((Z6).toNat * 2)).off + 1, none⟩ = some (.slice Z17 ((rd_T32 l0 Z6).f1).length Z18)) (ds := []) (bl 24 0) (by kernel_rfl) rfl rfl ⟨(hc HB Z25), (hc HB Z24)⟩ (fun hHeld => ?_); refine with_tabW spec_ProbeSkyOk.tab6 spec_ProbeSkyOk.bits6 (fun HT_ HW_ => ?_)
      generalize wr.drew = Z28 at HB Z26 Z20 Z21 hHeld ⊢
      refine pu 0 13 (bl 24 1) ?_
      refine pu 1 14 (bl 24 3) ?_
      refine pu 2 15 (bl 24 7) ?_
      refine tk 3 16 (bl 24 15) ?_ hHeld
      refine oe 4 17 (bl 24 31) (fun K hK => ?_)
      refine gs Tryz.func17 #[.agg #[.string ((rd_T32 l0 Z6).f0), .slice Z17 ((rd_T32 l0 Z6).f1).length Z18]] ?_
      with_reducible refine (spec_ProbeTubeOk.calls Z8 ((rd_T32 l0 Z6).f0) _ _ ((rd_T32 l0 Z6).f1) false _ ?side1 ?side2 Z12.out).mono ?_
      (case side1 => exact sc Z26)
      (case side2 => exact Z27.out)
      rintro e Z29 ⟨rfl, hb⟩
      refine ⟨_, rfl, ?_⟩
      have _ := bs hb
      clear HB
      rename_i HB
      (try clear hb)
      refine hK.out _ _ ⟨(hc HB Z25), (hc HB Z24)⟩ (fun hHeld => ?_)
      clear hK K
      refine nm 17 ?_
      refine pu 5 18 (bl 24 63) ?_
      refine pu 6 19 (bl 24 127) ?_
      refine pv 7 20 (bl 24 255) ?_
      refine pv 8 21 (bl 24 511) ?_
      refine pv 9 22 (bl 24 1023) ?_
      refine pv 10 23 (bl 24 2047) ?_
      refine pv 11 24 (bl 24 4095) ?_
      refine pv 12 25 (bl 24 8191) ?_
      refine pv 13 26 (bl 24 16383) ?_
      refine pv 14 27 (bl 24 32767) ?_
      refine pv 15 28 (bl 24 65535) ?_
      refine pv 16 29 (bl 24 131071) ?_
      refine pv 17 30 (bl 24 262143) ?_
      refine pv 18 31 (bl 24 524287) ?_
      refine pv 19 32 (bl 24 1048575) ?_
      refine pv 20 33 (bl 24 2097151) ?_
      refine pv 21 34 (bl 24 4194303) ?_
      refine pv 22 35 (bl 24 8388607) ?_
      refine pu 23 36 (bl 24 16777215) ?_
      refine done_ (done_of HT_.out (by kernel_rfl)) ?_
      try go_wp2
      go_ret
      exact ⟨re, bq⟩
    ·obtain rfl := Option.some.inj H
     go_wp2
     go_ret
     exact ⟨re, bq⟩
end Go.Proofs.YtgklmafdbgnohaaGreat.PA
end
