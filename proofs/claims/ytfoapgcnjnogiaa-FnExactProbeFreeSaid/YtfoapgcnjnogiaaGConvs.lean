/- Contracts of the functions laws_szProbeTubeS, laws_toProbeTubeS, laws_eqProbeTubeS. (Began as a print of the kit's tool.) -/
import Derived.Test.YtfoapgcnjnogiaaPAd
import Derived.Test.YtfoapgcnjnogiaaCx
import Derived.Test.YtfoapgcnjnogiaaGConv
namespace Go.Proofs.Ytfoapgcnjnogiaa.PA
open Go.RowKit Go.Proofs.YtfoapgcnjnogiaaW.PrintWords Go.Proofs.YtfoapgcnjnogiaaW.PrintLast Go.Proofs.YtfoapgcnjnogiaaW.PrintMore Go.Proofs.Ytfoapgcnjnogiaa.Z
attribute [local go_sem] max2_int min2_int max_two min_two max_three min_three max_four min_four
set_option linter.unusedVariables false
set_option linter.unusedSimpArgs false
set_option maxHeartbeats 8000000 in
set_option maxRecDepth 100000 in
theorem laws_szProbeTubeS.calls (k : Nat) (A0 : Option Addr) (c0 : Nat) (l0 : List (S34)) (a1 : Int) (r : Int) (w : World) (hr0 : Kd.C k34 w A0 l0.length l0) (hc0 : l0.length ≤ c0) (h : laws_szProbeTubeS.f k l0 a1 = some r) :
    Calls Try.prog 27 #[.slice A0 l0.length c0, .int .i64 a1] w fun e w' => e = .returned (.int .i64 r) ∧ Below w.heap.size w w' := by
  have hu34 := Try.underlying34
  have HR0 := Aside0.mk hr0
  have HC0 := Aside0.mk hc0
  clear hr0 hc0
  have HB := ra (Below.refl w.heap.size w)
  have H : (if (wrap64 (a1 - (l0.length : Int))) < 0 then (some (-1)) else (laws_szProbeTubeS.l0 k l0 (wrap64 (a1 - (l0.length : Int))) 0)) = some r := h
  clear h
  by_cases c3 : (wrap64 (a1 - (l0.length : Int))) < 0
  · rw [if_pos c3] at H
    have c3b0 : decide ((wrap64 (a1 - (l0.length : Int))) < 0) = true := decide_eq_true c3
    clear c3
    obtain rfl := Option.some.inj H
    go_enter Try.func27, Try.ntmps27
    go_wp2
    go_ret
    exact ⟨re, bq⟩
  · rw [if_neg c3] at H
    have c3b0 : decide ((wrap64 (a1 - (l0.length : Int))) < 0) = false := decide_eq_false c3
    clear c3
    have H' := Aside0.mk H
    clear H
    go_enter Try.func27, Try.ntmps27
    go_wp2
    go_loopg [1, 5] k (fun kq v1 v5 w' => ∃ (x1_1 : Int) (x5_1 : Int), v1 = .int .i64 x1_1 ∧ v5 = .int .i64 x5_1 ∧ Aside0 (laws_szProbeTubeS.l0 kq l0 x1_1 x5_1 = some r) ∧ Aside0 (kq ≤ k) ∧ Aside0 (Below w.heap.size w w'))
    case atStart => exact ⟨(wrap64 (a1 - (l0.length : Int))), (0), rs, rs, H', ⟨Nat.le_refl _⟩, ⟨bq⟩⟩
    case round =>
      clear H'
      try clear c3
      try clear c3b0
      obtain ⟨x1_1, x5_1, rfl, rfl, HA, HK1, HB⟩ := hrel
      cases gk with
      | zero => exact absurd HA.out (by simp [laws_szProbeTubeS.l0])
      | succ k1 =>
        have H := HA.out
        clear HA
        simp only [laws_szProbeTubeS.l0] at H
        by_cases c4 : x5_1 < (l0.length : Int)
        · rw [if_pos c4] at H
          have c4b0 : decide (x5_1 < (l0.length : Int)) = true := decide_eq_true c4
          clear c4
          by_cases c5 : 0 ≤ x5_1
          · rw [if_pos c5] at H
            have c5b0 : decide (0 ≤ x5_1) = true := decide_eq_true c5
            clear c5
            obtain ⟨t283, A6, H⟩ := bo H
            by_cases c7 : t283 < 0
            · rw [if_pos c7] at H
              have c7b0 : decide (t283 < 0) = true := decide_eq_true c7
              clear c7
              obtain rfl := Option.some.inj H
              have p282 : 0 ≤ (x5_1 : Int) := od
              have q282 : x5_1 < (l0.length : Int) := od
              obtain ⟨ad282, A282_1, c282_1, e282, hx282_0, hx282_1, hl282_1, hi282_1⟩ := at_T34 HR0.out x5_1 p282 q282
              cases e282
              replace hx282_0 := hc HB hx282_0
              replace hx282_1 := hc HB hx282_1
              have HR282_1 := Aside0.mk hi282_1
              have HC282_1 := Aside0.mk hl282_1
              clear hi282_1 hl282_1
              replace p282 := eq_true p282
              replace q282 := eq_true q282
              go_wp2_with (first | ((with_reducible refine gate_callee (f := 20) rfl ?_); refine gl (some 23) Try.func20 #[.agg #[.string ((rd_T34 l0 x5_1).f0), .slice A282_1 ((rd_T34 l0 x5_1).f1).length c282_1], .int .i64 x1_1] ?_; (with_reducible refine (laws_szProbeTube.calls ((rd_T34 l0 x5_1).f0) _ _ ((rd_T34 l0 x5_1).f1) x1_1 t283 _ ?side1 ?side2 A6.out).mono ?_); (case side1 => exact sc HR282_1); (case side2 => exact HC282_1.out); rintro e w8 ⟨rfl, hb⟩; refine ⟨_, rfl, ?_⟩; have n0 := bs hb; clear HB; have HB := n0; clear n0; (try clear hb); (try clear hb2); (try clear hk); (try clear hi)))
              go_ret
              exact ⟨re, bq⟩
            · rw [if_neg c7] at H
              have c7b0 : decide (t283 < 0) = false := decide_eq_false c7
              clear c7
              have H' := Aside0.mk H
              clear H
              have p282 : 0 ≤ (x5_1 : Int) := od
              have q282 : x5_1 < (l0.length : Int) := od
              obtain ⟨ad282, A282_1, c282_1, e282, hx282_0, hx282_1, hl282_1, hi282_1⟩ := at_T34 HR0.out x5_1 p282 q282
              cases e282
              replace hx282_0 := hc HB hx282_0
              replace hx282_1 := hc HB hx282_1
              have HR282_1 := Aside0.mk hi282_1
              have HC282_1 := Aside0.mk hl282_1
              clear hi282_1 hl282_1
              replace p282 := eq_true p282
              replace q282 := eq_true q282
              go_wp2_with (first | ((with_reducible refine gate_callee (f := 20) rfl ?_); refine gl (some 23) Try.func20 #[.agg #[.string ((rd_T34 l0 x5_1).f0), .slice A282_1 ((rd_T34 l0 x5_1).f1).length c282_1], .int .i64 x1_1] ?_; (with_reducible refine (laws_szProbeTube.calls ((rd_T34 l0 x5_1).f0) _ _ ((rd_T34 l0 x5_1).f1) x1_1 t283 _ ?side1 ?side2 A6.out).mono ?_); (case side1 => exact sc HR282_1); (case side2 => exact HC282_1.out); rintro e w9 ⟨rfl, hb⟩; refine ⟨_, rfl, ?_⟩; have n0 := bs hb; clear HB; have HB := n0; clear n0; (try clear hb); (try clear hb2); (try clear hk); (try clear hi)))
              go_roundg k1
              case measure => have := HK1.out; omega
              case rel => exact ⟨(t283), (wrap64 (x5_1 + 1)), rs, rs, H', ⟨by have := HK1.out; omega⟩, ⟨bq⟩⟩
          · rw [if_neg c5] at H
            exact absurd H (by simp)
        · rw [if_neg c4] at H
          have c4b0 : decide (x5_1 < (l0.length : Int)) = false := decide_eq_false c4
          clear c4
          obtain rfl := Option.some.inj H
          go_wp2
          go_ret
          exact ⟨re, bq⟩
set_option maxHeartbeats 8000000 in
set_option maxRecDepth 100000 in
theorem laws_toProbeTubeS.calls (k : Nat) (A0 : Option Addr) (c0 : Nat) (l0 : List (S34)) (r : List (S39)) (w : World) (hr0 : Kd.C k34 w A0 l0.length l0) (hc0 : l0.length ≤ c0) (h : laws_toProbeTubeS.f k l0 = some r) :
    Calls Try.prog 29 #[.slice A0 l0.length c0] w fun e w' => ∃ v0_ : Value, e = .returned (v0_) ∧ Kd.S k39 39 w' w.heap.size (fun _ => True) v0_ r ∧ Below w.heap.size w w' := by
  have hu34 := Try.underlying34
  have hu39 := Try.underlying39
  have HR0 := Aside0.mk hr0
  have HC0 := Aside0.mk hc0
  clear hr0 hc0
  have HB := ra (Below.refl w.heap.size w)
  have H : (if 0 ≤ (l0.length : Int) then (if ((l0.length : Int) : Int).toNat ≤ 7036874417766 then (laws_toProbeTubeS.l0 k l0 (List.replicate ((l0.length : Int) : Int).toNat z39) 0) else (none)) else (none)) = some r := h
  clear h
  by_cases c2 : 0 ≤ (l0.length : Int)
  · rw [if_pos c2] at H
    have c2b0 := eq_true c2
    have c2b1 : decide (0 ≤ (l0.length : Int)) = true := decide_eq_true c2
    clear c2
    by_cases c3 : ((l0.length : Int) : Int).toNat ≤ 7036874417766
    · rw [if_pos c3] at H
      have c3b0 := eq_true c3
      have c3b1 : decide (((l0.length : Int) : Int).toNat ≤ 7036874417766) = true := decide_eq_true c3
      clear c3
      obtain ⟨y288, hy_⟩ : ∃ y_ : List (S39), y_ = (List.replicate ((l0.length : Int) : Int).toNat z39) := ⟨_, rfl⟩
      replace H : (laws_toProbeTubeS.l0 k l0 y288 0) = some r := yh
      have Ny288 := ra hy_
      clear hy_
      have H' := Aside0.mk H
      clear H
      go_enter Try.func29, Try.ntmps29
      go_wp2_with (first | ((with_reducible refine gate_dst (N := 7) rfl ?_); refine Kd.S_make k39 _ 39 rfl (N := 7) rfl 47 _ _ rfl (l0.length : Int) rfl rfl Try.underlying47 (.agg #[(.string ⟨#[]⟩), (.slice none 0 0)]) 40 info39 rfl (by decide) (by omega) z39 (ok := fun _ => True) (okp := fun _ => True) (k39_mkM _ _ _ z39 (Kd.R_nil _ _ _ _ _)) (fun _ hk => hk) trivial (od) (Nat.le_trans (Nat.mul_le_mul_right _ (od : (l0.length : Int).toNat ≤ 7036874417766)) (by omega)) (Below.refl _ _) (Nat.le_refl _) ?_; intro v289 w4 ho5 hb hg_ hnew_; clear hg_ hnew_; (first | rw [← Ny288.out] at ho5 | (simp only [Int.reduceToNat] at ho5; rw [← Ny288.out] at ho5)); have n0 := ra (Kd.S_lower ho5 (below_size bq)); have n1 := bs hb; clear HB; have HO290 := n0; have HB := n1; clear n0 n1; clear hb ho5))
      go_loopg [4] k (fun kq v4 w' => ∃ (x3_1 : List (S39)) (x4_1 : Int), v4 = .int .i64 x4_1 ∧ Aside0 (laws_toProbeTubeS.l0 kq l0 x3_1 x4_1 = some r) ∧ Aside0 (kq ≤ k) ∧ Aside0 (Kd.S k39 39 w' w.heap.size (fun _ => True) v289 x3_1) ∧ Aside0 (Below w.heap.size w w'))
      case atStart => exact ⟨(y288), (0), rs, H', ⟨Nat.le_refl _⟩, ⟨by (with_reducible repeat (first | apply Kd.S_alloc | apply Kd.S_drewN | apply Kd.S_drew)); exact HO290.out⟩, ⟨bq⟩⟩
      case round =>
        clear H'
        try clear c2
        try clear c2b0
        try clear c2b1
        try clear c3
        try clear c3b0
        try clear c3b1
        obtain ⟨x3_1, x4_1, rfl, HA, HK1, HO_3, HB⟩ := hrel
        cases gk with
        | zero => exact absurd HA.out (by simp [laws_toProbeTubeS.l0])
        | succ k1 =>
          have H := HA.out
          clear HA
          simp only [laws_toProbeTubeS.l0] at H
          by_cases c6 : x4_1 < (l0.length : Int)
          · rw [if_pos c6] at H
            have c6b0 : decide (x4_1 < (l0.length : Int)) = true := decide_eq_true c6
            clear c6
            by_cases c7 : 0 ≤ x4_1
            · rw [if_pos c7] at H
              have c7b0 : decide (0 ≤ x4_1) = true := decide_eq_true c7
              clear c7
              obtain ⟨⟨t292, t293⟩, A8, H⟩ := bo H
              try dsimp only at H
              by_cases c9 : x4_1 < (x3_1.length : Int)
              · rw [if_pos c9] at H
                have c9b0 : decide (x4_1 < (x3_1.length : Int)) = true := decide_eq_true c9
                clear c9
                obtain ⟨y296, hy_⟩ : ∃ y_ : List (S39), y_ = (x3_1.set (x4_1 : Int).toNat (⟨t292, t293⟩ : S39)) := ⟨_, rfl⟩
                replace H : (laws_toProbeTubeS.l0 k1 l0 y296 (wrap64 (x4_1 + 1))) = some r := yh
                have Ny296 := ra hy_
                clear hy_
                have H' := Aside0.mk H
                clear H
                have p291 : 0 ≤ (x4_1 : Int) := od
                have q291 : x4_1 < (l0.length : Int) := od
                obtain ⟨ad291, A291_1, c291_1, e291, hx291_0, hx291_1, hl291_1, hi291_1⟩ := at_T34 HR0.out x4_1 p291 q291
                cases e291
                replace hx291_0 := hc HB hx291_0
                replace hx291_1 := hc HB hx291_1
                have HR291_1 := Aside0.mk hi291_1
                have HC291_1 := Aside0.mk hl291_1
                clear hi291_1 hl291_1
                replace p291 := eq_true p291
                replace q291 := eq_true q291
                go_wp2_with (first | ((with_reducible refine gate_callee (f := 22) rfl ?_); refine gl (some 20) Try.func22 #[.agg #[.string ((rd_T34 l0 x4_1).f0), .slice A291_1 ((rd_T34 l0 x4_1).f1).length c291_1]] ?_; (with_reducible refine (laws_toProbeTube.calls k1 ((rd_T34 l0 x4_1).f0) _ _ ((rd_T34 l0 x4_1).f1) t292 t293 _ ?side1 ?side2 A8.out).mono ?_); (case side1 => exact sc HR291_1); (case side2 => exact HC291_1.out); rintro e w11 ⟨v294, rfl, ho0, hb⟩; obtain ⟨Aq294, cq294, eq294⟩ := Kd.R_slice ho0; subst eq294; refine ⟨_, rfl, ?_⟩; have n0 := ra (Kd.S_elder' (by (with_reducible repeat (first | apply Kd.S_alloc | apply Kd.S_drewN | apply Kd.S_drew)); exact HO_3.out) (Kd.R_base ho0) hb); have n1 := ra (Kd.R_lower ho0 (below_size bq)); have n2 := bs hb; clear HO_3 HB; have HO_3 := n0; have HO295 := n1; have HB := n2; clear n0 n1 n2; (try clear hb); (try clear hb2); (try clear hk); (try clear hi); (try clear ho0); have p10 : 0 ≤ (x4_1 : Int) := od; have q10 : (x4_1 : Int) < ((x3_1.length : Int) : Int) := od; obtain ⟨go10, co10, eo10, gb10, gl10, cl10, HG10⟩ := Kd.S_form HO_3.out (by omega); (first | cases eo10 | (injection eo10 with ea_ en_ ec_; (first | subst ea_ | (injection ea_ with ea_; subst ea_)); subst ec_; clear en_)); have GB10 := Aside0.mk gb10; have GG10 := Aside0.mk HG10; clear gb10 gl10 HG10; obtain ⟨_, ce10, hcl10, hM10, hcc10, hfr10, _, _⟩ := Kd.S_elem HO_3.out z39 (x4_1 : Int) p10 q10; obtain ⟨ve10_1, rfl, ge10_1⟩ := k39_openM hM10; have hx10_0 : w11.cell? ⟨go10, (x4_1 : Int).toNat * 2, none⟩ = some (.string ((rd_T39 x3_1 x4_1).f0)) := hcc10 0 _ rfl; have hx10_1 : w11.cell? ⟨go10, (x4_1 : Int).toNat * 2 + 1, none⟩ = some (ve10_1) := hcc10 1 _ rfl; have hf10_0 : w11.frozen? ⟨go10, (x4_1 : Int).toNat * 2, none⟩ = false := hfr10 0; have hf10_1 : w11.frozen? ⟨go10, (x4_1 : Int).toNat * 2 + 1, none⟩ = false := hfr10 1; clear hcl10 hcc10 hfr10 hM10; replace p10 := eq_true p10; replace q10 := eq_true q10; have n_ := ra (Kd.S_mono (ok' := (fun k_ => some k_ ≠ ((.slice Aq294 t293.length cq294 : Value) : Value).ownBlock)) HO_3.out (fun k_ hk => hk.2)); clear HO_3; have HO_3 := n_; clear n_; have HX12 := ra (show Kd.S k39 39 w11 w.heap.size (fun k_ => ((fun _ => True)) k_ ∧ ¬ ((fun k_ => some k_ = ((.slice Aq294 t293.length cq294 : Value) : Value).ownBlock)) k_) (.slice (some ⟨go10, 0, none⟩) x3_1.length co10) x3_1 from (by (with_reducible repeat (first | apply Kd.S_alloc | apply Kd.S_drewN | apply Kd.S_drew)); exact Kd.S_mono HO_3.out (fun k_ hk => ⟨trivial, fun e_ => hk e_⟩))); obtain ⟨oki12, ce12, hcl12, hM12, hcc12, hfr12, hoki12, hH12⟩ := Kd.S_elem HX12.out z39 (x4_1 : Int) (od) (by have h_ : (x4_1 : Int) < ((x3_1.length : Int) : Int) := od; first | exact h_ | (have e_ := (Kd.S_reads' HO_3.out).1; omega) | simpa using h_); obtain ⟨ve12_1, rfl, ge12_1⟩ := k39_openM hM12; have HP12 := Kd.S_seg hH12 (od) (by have h_ : (x4_1 : Int) < ((x3_1.length : Int) : Int) := od; first | exact h_ | (have e_ := (Kd.S_reads' HO_3.out).1; omega) | simpa using h_) (seg := [.string t292, (.slice Aq294 t293.length cq294 : Value)]) (j := 0) (show 2 ≤ 2 from by decide) (x' := (⟨t292, t293⟩ : S39)) (k39_mkM _ _ _ (⟨t292, t293⟩ : S39) (Kd.R_mono (Kd.R_tight rfl (Kd.R_mono (ok' := fun k_ => ((fun _ => True)) k_ ∧ k_ ≠ go10) (Kd.R_apart' (HO295.out) (Kd.S_typed HO_3.out) (by decide)) (fun k_ hk => ⟨trivial, fun e_ => (hk.2) (by rw [e_]; rfl)⟩))) (fun _ h_ => Or.inr (h_)))) (fun _ hk => hk) (fun k_ hk_ => ((Kd.R_mono (ok' := fun k_ => ((fun _ => True)) k_ ∧ k_ ≠ go10) (Kd.R_apart' (HO295.out) (Kd.S_typed HO_3.out) (by decide)) (fun k_ hk => ⟨trivial, fun e_ => (hk.2) (by rw [e_]; rfl)⟩))).1 k_ hk_.symm); have hx12_0 := hcc12 0 _ rfl; (try simp only [show (k39).sz = 2 from rfl, Nat.mul_one, Nat.add_zero] at hx12_0); have hf12_0 := hfr12 0; (try simp only [show (k39).sz = 2 from rfl, Nat.mul_one, Nat.add_zero] at hf12_0); have hx12_1 := hcc12 1 _ rfl; (try simp only [show (k39).sz = 2 from rfl, Nat.mul_one, Nat.add_zero] at hx12_1); have hf12_1 := hfr12 1; (try simp only [show (k39).sz = 2 from rfl, Nat.mul_one, Nat.add_zero] at hf12_1); clear hcl12 hcc12 hfr12 hM12 hoki12 hH12) | ((with_reducible refine gate_store (t := 39) (p := 21) rfl ?_); refine store_event (t := 39) (p := 21) (v := ?vo_w13) (w1 := ((w11.setCell ⟨go10, (x4_1 : Int).toNat * 2, none⟩ (.string t292)).setCell ⟨go10, (x4_1 : Int).toNat * 2 + 1, none⟩ ((.slice Aq294 t293.length cq294 : Value)))) ?hg ?ho ?hn ?hr ?_; (case ho => rfl); (case hg => rfl); (case hn => rfl); (case hr => first | (go_simp; done) | (go_simp; rfl)); intro w13 hw; have hg : w11.grownBy w13 (some go10) := (by rw [hw]; exact HP12.2); have hp_ : Kd.S k39 39 w13 w.heap.size (fun _ => True) (.slice (some ⟨go10, 0, none⟩) x3_1.length co10) y296 := (by rw [hw, Ny296.out]; exact HP12.1); clear HP12; have n0 := ra (hp_); have n1 := ra ((by rw [hw]; exact below_set (below_set (HB.out) GB10.out) GB10.out : Below w.heap.size w w13)); clear HO_3 HB HO295; have HO_3 := n0; have HB := n1; clear n0 n1; clear hg hw hp_))
                go_roundg k1
                case measure => have := HK1.out; omega
                case rel => exact ⟨(y296), (wrap64 (x4_1 + 1)), rs, H', ⟨by have := HK1.out; omega⟩, ⟨by (with_reducible repeat (first | apply Kd.S_alloc | apply Kd.S_drewN | apply Kd.S_drew)); exact HO_3.out⟩, ⟨bq⟩⟩
              · rw [if_neg c9] at H
                exact absurd H (by simp)
            · rw [if_neg c7] at H
              exact absurd H (by simp)
          · rw [if_neg c6] at H
            have c6b0 : decide (x4_1 < (l0.length : Int)) = false := decide_eq_false c6
            clear c6
            obtain rfl := Option.some.inj H
            go_wp2
            go_ret
            exact ⟨_, re, by (with_reducible repeat (first | apply Kd.S_alloc | apply Kd.S_drewN | apply Kd.S_drew)); exact HO_3.out, bq⟩
    · rw [if_neg c3] at H
      exact absurd H (by simp)
  · rw [if_neg c2] at H
    exact absurd H (by simp)
def laws_eqProbeTubeS.T6 : Bool × List (List Nat × List Nat) := (true, [([], []), ([], []), ([0, 1], [0, 1]), ([2], [2]), ([], []), ([], []), ([4, 5], [4, 5]), ([6], [6]), ([3, 7], [3, 7]), ([8], [8])])
def laws_eqProbeTubeS.B6 : List Nat := [0, 0, 3, 7, 0, 0, 48, 112, 255, 511]
theorem laws_eqProbeTubeS.tab6 : rtab .any (opsOf Try.f31 6) = laws_eqProbeTubeS.T6 := by kernel_rfl
theorem laws_eqProbeTubeS.bits6 : waitsOk laws_eqProbeTubeS.T6.2 laws_eqProbeTubeS.B6 = true := by kernel_rfl
set_option maxHeartbeats 8000000 in
set_option maxRecDepth 100000 in
theorem laws_eqProbeTubeS.calls (k : Nat) (A0 : Option Addr) (c0 : Nat) (l0 : List (S39)) (A1 : Option Addr) (c1 : Nat) (l1 : List (S39)) (r : Bool) (w : World) (hr0 : Kd.C k39 w A0 l0.length l0) (hc0 : l0.length ≤ c0) (hr1 : Kd.C k39 w A1 l1.length l1) (hc1 : l1.length ≤ c1) (h : laws_eqProbeTubeS.f k l0 l1 = some r) :
    Calls Try.prog 31 #[.slice A0 l0.length c0, .slice A1 l1.length c1] w fun e w' => e = .returned (.bool r) ∧ Below w.heap.size w w' := by
  have hu39 := Try.underlying39
  have HR0 := Aside0.mk hr0
  have HC0 := Aside0.mk hc0
  clear hr0 hc0
  have HR1 := Aside0.mk hr1
  have HC1 := Aside0.mk hc1
  clear hr1 hc1
  have HB := ra (Below.refl w.heap.size w)
  have H : (if (l0.length : Int) = (l1.length : Int) then (laws_eqProbeTubeS.l0 k l0 l1 0) else (some false)) = some r := h
  clear h
  by_cases c3 : (l0.length : Int) = (l1.length : Int)
  · rw [if_pos c3] at H
    have c3b0 : ((l0.length : Int) == (l1.length : Int)) = true := beq_iff_eq.mpr c3
    have c3b1 : ((l0.length : Int) != (l1.length : Int)) = false := bne_eq_false_iff_eq.mpr c3
    have c3b2 : (l0.length == l1.length) = true := by first | simpa using c3 | (simp at c3 ⊢; omega)
    clear c3
    have H' := Aside0.mk H
    clear H
    go_enter Try.func31, Try.ntmps31
    go_wp2
    go_loopg [5] k (fun kq v5 w' => ∃ (x5_1 : Int), v5 = .int .i64 x5_1 ∧ Aside0 (laws_eqProbeTubeS.l0 kq l0 l1 x5_1 = some r) ∧ Aside0 (kq ≤ k) ∧ Aside0 (Below w.heap.size w w'))
    case atStart => exact ⟨(0), rs, H', ⟨Nat.le_refl _⟩, ⟨bq⟩⟩
    case round =>
      clear H'
      try clear c1
      try clear c3
      try clear c3b0
      try clear c3b1
      try clear c3b2
      obtain ⟨x5_1, rfl, HA, HK1, HB⟩ := hrel
      cases gk with
      | zero => exact absurd HA.out (by simp [laws_eqProbeTubeS.l0])
      | succ k1 =>
        have H := HA.out
        clear HA
        simp only [laws_eqProbeTubeS.l0] at H
        by_cases c4 : x5_1 < (l0.length : Int)
        · rw [if_pos c4] at H
          have c4b0 : decide (x5_1 < (l0.length : Int)) = true := decide_eq_true c4
          clear c4
          by_cases c5 : 0 ≤ x5_1
          · rw [if_pos c5] at H
            have c5b0 : decide (0 ≤ x5_1) = true := decide_eq_true c5
            clear c5
            by_cases c6 : x5_1 < (l1.length : Int)
            · rw [if_pos c6] at H
              have c6b0 : decide (x5_1 < (l1.length : Int)) = true := decide_eq_true c6
              clear c6
              obtain ⟨t303, A7, H⟩ := bo H
              by_cases c8 : t303 = true
              · subst c8
                replace H := it H rfl
                have H' := Aside0.mk H
                clear H
                try go_wp2
                have n0 := ra (below_drew1 HB.out)
                clear HB
                have HB := n0
                clear n0
                have p301 : 0 ≤ (x5_1 : Int) := od
                have q301 : x5_1 < (l0.length : Int) := od
                obtain ⟨ad301, A301_1, c301_1, e301, hx301_0, hx301_1, hl301_1, hi301_1⟩ := at_T39 HR0.out x5_1 p301 q301
                have hw301_1 := hx301_1
                have hw301_0 := hx301_0
                cases e301
                replace hx301_0 := hc HB hx301_0
                replace hx301_1 := hc HB hx301_1
                have HR301_1 := Aside0.mk hi301_1
                have HC301_1 := Aside0.mk hl301_1
                clear hi301_1 hl301_1
                replace p301 := eq_true p301
                replace q301 := eq_true q301
                have p302 : 0 ≤ (x5_1 : Int) := od
                have q302 : x5_1 < (l1.length : Int) := od
                obtain ⟨ad302, A302_1, c302_1, e302, hx302_0, hx302_1, hl302_1, hi302_1⟩ := at_T39 HR1.out x5_1 p302 q302
                have hw302_1 := hx302_1
                have hw302_0 := hx302_0
                cases e302
                replace hx302_0 := hc HB hx302_0
                replace hx302_1 := hc HB hx302_1
                have HR302_1 := Aside0.mk hi302_1
                have HC302_1 := Aside0.mk hl302_1
                clear hi302_1 hl302_1
                replace p302 := eq_true p302
                replace q302 := eq_true q302
                refine start_ (n := 10) (S := fun w' => w'.cell? (ad301.add ((x5_1).toNat * 2)) = some (.string ((rd_T39 l0 x5_1).f0)) ∧ w'.cell? ⟨(ad301.add ((x5_1).toNat * 2)).block, (ad301.add ((x5_1).toNat * 2)).off + 1, none⟩ = some (.slice A301_1 ((rd_T39 l0 x5_1).f1).length c301_1) ∧ w'.cell? (ad302.add ((x5_1).toNat * 2)) = some (.string ((rd_T39 l1 x5_1).f0)) ∧ w'.cell? ⟨(ad302.add ((x5_1).toNat * 2)).block, (ad302.add ((x5_1).toNat * 2)).off + 1, none⟩ = some (.slice A302_1 ((rd_T39 l1 x5_1).f1).length c302_1)) (ds := []) (bl 10 0) (by kernel_rfl) rfl rfl ⟨(hc HB hw301_0), (hc HB hw301_1), (hc HB hw302_0), (hc HB hw302_1)⟩ (fun hHeld => ?_); refine with_tabW laws_eqProbeTubeS.tab6 laws_eqProbeTubeS.bits6 (fun HT_ HW_ => ?_)
                generalize wr.drew = w9 at HB HR301_1 HR302_1 hx301_0 hx301_1 hx302_0 hx302_1 hHeld ⊢
                refine pu 0 17 (bl 10 1) ?_
                refine pu 1 18 (bl 10 3) ?_
                refine pu 2 19 (bl 10 7) ?_
                refine pu 4 21 (bl 10 23) ?_
                refine pu 5 22 (bl 10 55) ?_
                refine pu 6 23 (bl 10 119) ?_
                refine tk 3 20 (bl 10 127) ?_ hHeld
                refine tk 7 24 (bl 10 255) ?_ hHeld
                refine oe 8 25 (bl 10 511) (fun K hK => ?_)
                refine gs Try.func24 #[.agg #[.string ((rd_T39 l0 x5_1).f0), .slice A301_1 ((rd_T39 l0 x5_1).f1).length c301_1], .agg #[.string ((rd_T39 l1 x5_1).f0), .slice A302_1 ((rd_T39 l1 x5_1).f1).length c302_1]] ?_
                with_reducible refine (laws_eqProbeTube.calls k1 ((rd_T39 l0 x5_1).f0) _ _ ((rd_T39 l0 x5_1).f1) ((rd_T39 l1 x5_1).f0) _ _ ((rd_T39 l1 x5_1).f1) true _ ?side1 ?side2 ?side3 ?side4 A7.out).mono ?_
                (case side1 => exact sc HR301_1)
                (case side2 => exact HC301_1.out)
                (case side3 => exact sc HR302_1)
                (case side4 => exact HC302_1.out)
                rintro e w10 ⟨rfl, hb⟩
                refine ⟨_, rfl, ?_⟩
                have n0 := bs hb
                clear HB
                have HB := n0
                clear n0
                (try clear hb)
                (try clear hb2)
                (try clear hk)
                (try clear hi)
                refine hK.out _ _ ⟨(hc HB hw301_0), (hc HB hw301_1), (hc HB hw302_0), (hc HB hw302_1)⟩ (fun hHeld => ?_)
                clear hK K
                refine nm 25 ?_
                refine pu 9 26 (bl 10 1023) ?_
                refine done_ (done_of HT_.out (by kernel_rfl)) ?_
                try go_wp2
                go_roundg k1
                case measure => have := HK1.out; omega
                case rel => exact ⟨(wrap64 (x5_1 + 1)), rs, H', ⟨by have := HK1.out; omega⟩, ⟨bq⟩⟩
              · replace c8 := Bool.eq_false_iff.mpr c8
                subst c8
                have H1 : (some false) = some r := by rw [if_neg (show ¬ (false = true) by decide)] at H; exact H
                clear H
                have H := H1
                clear H1
                obtain rfl := Option.some.inj H
                try go_wp2
                have n0 := ra (below_drew1 HB.out)
                clear HB
                have HB := n0
                clear n0
                have p301 : 0 ≤ (x5_1 : Int) := od
                have q301 : x5_1 < (l0.length : Int) := od
                obtain ⟨ad301, A301_1, c301_1, e301, hx301_0, hx301_1, hl301_1, hi301_1⟩ := at_T39 HR0.out x5_1 p301 q301
                have hw301_1 := hx301_1
                have hw301_0 := hx301_0
                cases e301
                replace hx301_0 := hc HB hx301_0
                replace hx301_1 := hc HB hx301_1
                have HR301_1 := Aside0.mk hi301_1
                have HC301_1 := Aside0.mk hl301_1
                clear hi301_1 hl301_1
                replace p301 := eq_true p301
                replace q301 := eq_true q301
                have p302 : 0 ≤ (x5_1 : Int) := od
                have q302 : x5_1 < (l1.length : Int) := od
                obtain ⟨ad302, A302_1, c302_1, e302, hx302_0, hx302_1, hl302_1, hi302_1⟩ := at_T39 HR1.out x5_1 p302 q302
                have hw302_1 := hx302_1
                have hw302_0 := hx302_0
                cases e302
                replace hx302_0 := hc HB hx302_0
                replace hx302_1 := hc HB hx302_1
                have HR302_1 := Aside0.mk hi302_1
                have HC302_1 := Aside0.mk hl302_1
                clear hi302_1 hl302_1
                replace p302 := eq_true p302
                replace q302 := eq_true q302
                refine start_ (n := 10) (S := fun w' => w'.cell? (ad301.add ((x5_1).toNat * 2)) = some (.string ((rd_T39 l0 x5_1).f0)) ∧ w'.cell? ⟨(ad301.add ((x5_1).toNat * 2)).block, (ad301.add ((x5_1).toNat * 2)).off + 1, none⟩ = some (.slice A301_1 ((rd_T39 l0 x5_1).f1).length c301_1) ∧ w'.cell? (ad302.add ((x5_1).toNat * 2)) = some (.string ((rd_T39 l1 x5_1).f0)) ∧ w'.cell? ⟨(ad302.add ((x5_1).toNat * 2)).block, (ad302.add ((x5_1).toNat * 2)).off + 1, none⟩ = some (.slice A302_1 ((rd_T39 l1 x5_1).f1).length c302_1)) (ds := []) (bl 10 0) (by kernel_rfl) rfl rfl ⟨(hc HB hw301_0), (hc HB hw301_1), (hc HB hw302_0), (hc HB hw302_1)⟩ (fun hHeld => ?_); refine with_tabW laws_eqProbeTubeS.tab6 laws_eqProbeTubeS.bits6 (fun HT_ HW_ => ?_)
                generalize wr.drew = w11 at HB HR301_1 HR302_1 hx301_0 hx301_1 hx302_0 hx302_1 hHeld ⊢
                refine pu 0 17 (bl 10 1) ?_
                refine pu 1 18 (bl 10 3) ?_
                refine pu 2 19 (bl 10 7) ?_
                refine pu 4 21 (bl 10 23) ?_
                refine pu 5 22 (bl 10 55) ?_
                refine pu 6 23 (bl 10 119) ?_
                refine tk 3 20 (bl 10 127) ?_ hHeld
                refine tk 7 24 (bl 10 255) ?_ hHeld
                refine oe 8 25 (bl 10 511) (fun K hK => ?_)
                refine gs Try.func24 #[.agg #[.string ((rd_T39 l0 x5_1).f0), .slice A301_1 ((rd_T39 l0 x5_1).f1).length c301_1], .agg #[.string ((rd_T39 l1 x5_1).f0), .slice A302_1 ((rd_T39 l1 x5_1).f1).length c302_1]] ?_
                with_reducible refine (laws_eqProbeTube.calls k1 ((rd_T39 l0 x5_1).f0) _ _ ((rd_T39 l0 x5_1).f1) ((rd_T39 l1 x5_1).f0) _ _ ((rd_T39 l1 x5_1).f1) false _ ?side1 ?side2 ?side3 ?side4 A7.out).mono ?_
                (case side1 => exact sc HR301_1)
                (case side2 => exact HC301_1.out)
                (case side3 => exact sc HR302_1)
                (case side4 => exact HC302_1.out)
                rintro e w12 ⟨rfl, hb⟩
                refine ⟨_, rfl, ?_⟩
                have n0 := bs hb
                clear HB
                have HB := n0
                clear n0
                (try clear hb)
                (try clear hb2)
                (try clear hk)
                (try clear hi)
                refine hK.out _ _ ⟨(hc HB hw301_0), (hc HB hw301_1), (hc HB hw302_0), (hc HB hw302_1)⟩ (fun hHeld => ?_)
                clear hK K
                refine nm 25 ?_
                refine pu 9 26 (bl 10 1023) ?_
                refine done_ (done_of HT_.out (by kernel_rfl)) ?_
                try go_wp2
                go_ret
                exact ⟨re, bq⟩
            · rw [if_neg c6] at H
              exact absurd H (by simp)
          · rw [if_neg c5] at H
            exact absurd H (by simp)
        · rw [if_neg c4] at H
          have c4b0 : decide (x5_1 < (l0.length : Int)) = false := decide_eq_false c4
          clear c4
          obtain rfl := Option.some.inj H
          go_wp2
          go_ret
          exact ⟨re, bq⟩
  · rw [if_neg c3] at H
    have c3b0 : ((l0.length : Int) == (l1.length : Int)) = false := beq_eq_false_iff_ne.mpr c3
    have c3b1 : ((l0.length : Int) != (l1.length : Int)) = true := bne_iff_ne.mpr c3
    have c3b2 : (l0.length == l1.length) = false := by first | simpa using c3 | (simp at c3 ⊢; omega)
    obtain rfl := Option.some.inj H
    go_enter Try.func31, Try.ntmps31
    go_wp2
    go_ret
    exact ⟨re, bq⟩
end Go.Proofs.Ytfoapgcnjnogiaa.PA
