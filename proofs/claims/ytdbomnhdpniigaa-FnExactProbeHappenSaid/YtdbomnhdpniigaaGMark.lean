/- Contracts of the functions laws_markProbeBoxS, laws_markProbeTube, laws_heldProbeBoxS. (Began as a print of the kit's tool.) -/
import Derived.Test.YtdbomnhdpniigaaPAd
import Derived.Test.YtdbomnhdpniigaaCx
namespace Go.Proofs.Ytdbomnhdpniigaa.PA
open Go.RowKit Go.Proofs.YtdbomnhdpniigaaW.PrintWords Go.Proofs.YtdbomnhdpniigaaW.PrintLast Go.Proofs.YtdbomnhdpniigaaW.PrintMore Go.Proofs.Ytdbomnhdpniigaa.Z
attribute [local go_sem] max2_int min2_int max_two min_two max_three min_three max_four min_four
set_option linter.unusedVariables false
set_option linter.unusedSimpArgs false
set_option maxHeartbeats 8000000 in
set_option maxRecDepth 100000 in
theorem laws_markProbeBoxS.calls (k : Nat) (P0_ : Nat → Prop) (u9000_ : Value) (l0 : List (S95)) (a1 : Int) (r1 : Int) (r2 : List (S95)) (w0 w : World) (hB : Below w0.heap.size w0 w) (ho0 : Kd.R k95 95 w w0.heap.size P0_ u9000_ l0) (h : laws_markProbeBoxS.f k l0 a1 = some (r1, r2)) :
  Calls Try.prog 49 #[u9000_, .int .i64 a1] w fun e w' => e = .returned (.int .i64 r1) ∧ Kd.R k95 95 w' w0.heap.size (fun k_ => (P0_ k_ ∨ w.heap.size ≤ k_)) u9000_ r2 ∧ Below w0.heap.size w0 w' ∧ Kept w w' (fun k_ => P0_ k_) := by
 have HO0 := ra (show Kd.R k95 95 w w0.heap.size (fun k_ => (P0_ k_ ∨ w.heap.size ≤ k_)) u9000_ l0 from Kd.R_mono ho0 (fun k_ hk => (.inl hk)))
 have HK := ra (Kept.refl w (fun k_ => P0_ k_))
 have HW0 := Aside0.mk hB.size
 have HB := Aside0.mk hB
 clear hB
 have H : (laws_markProbeBoxS.l0 k l0 a1 0) = some (r1, r2) := h
 clear h
 have H' := Aside0.mk H
 clear H
 go_enter Try.func49, Try.ntmps49
 go_wp2
 go_loopg [1, 5] k (fun kq v1 v5 w' => ∃ (x0_1 : List (S95)) (x1_1 : Int) (x5_1 : Int), v1 = .int .i64 x1_1 ∧ v5 = .int .i64 x5_1 ∧ Aside0 (laws_markProbeBoxS.l0 kq x0_1 x1_1 x5_1 = some (r1, r2)) ∧ Aside0 (kq ≤ k) ∧ Aside0 (Kd.R k95 95 w' w0.heap.size (fun k_ => (P0_ k_ ∨ w.heap.size ≤ k_)) u9000_ x0_1) ∧ Aside0 (Kept w w' (fun k_ => P0_ k_)) ∧ Aside0 (Below w0.heap.size w0 w'))
 case atStart => exact ⟨(l0), (a1), (0), rs, rs, H', ⟨Nat.le_refl _⟩, ⟨rq HO0⟩, ⟨by repeat (first | (with_reducible first | exact HK.out | apply Kept.alloc | apply Kept.drewN | apply Kept.drew) | exact HK.out)⟩, ⟨bq⟩⟩
 case round =>
  clear H'
  obtain ⟨x0_1, x1_1, x5_1, rfl, rfl, HA, HK1, HO_0, HK, HB⟩ := hrel
  cases gk with
  | zero => exact absurd HA.out (by simp [laws_markProbeBoxS.l0])
  | succ k1 =>
   have H := HA.out
   clear HA
   simp only [laws_markProbeBoxS.l0] at H
   by_cases c3 : x5_1 < (x0_1.length : Int)
   ·rw [if_pos c3] at H
    have c3b0 : decide (x5_1 < (x0_1.length : Int)) = true := decide_eq_true c3
    clear c3
    by_cases c4 : 0 ≤ x5_1
    ·rw [if_pos c4] at H
     have c4b0 : decide (0 ≤ x5_1) = true := decide_eq_true c4
     clear c4
     obtain ⟨y247, hy_⟩ : ∃ y_ : List (S95), y_ = (x0_1.set (x5_1 : Int).toNat (⟨x1_1, (rd_T95 x0_1 x5_1).f1, (rd_T95 x0_1 x5_1).f2, (rd_T95 x0_1 x5_1).f3, (rd_T95 x0_1 x5_1).f4, (rd_T95 x0_1 x5_1).f5⟩ : S95)) := ⟨_, rfl⟩
     replace H : ((some (y247.set (x5_1 : Int).toNat (⟨(rd_T95 y247 x5_1).f0, wrap64 (x1_1 + 1), (rd_T95 y247 x5_1).f2, (rd_T95 y247 x5_1).f3, (rd_T95 y247 x5_1).f4, (rd_T95 y247 x5_1).f5⟩ : S95) : List (S95))).bind fun y248 => ((some (y248.set (x5_1 : Int).toNat (⟨(rd_T95 y248 x5_1).f0, (rd_T95 y248 x5_1).f1, wrap64 ((wrap64 (x1_1 + 1)) + 1), (rd_T95 y248 x5_1).f3, (rd_T95 y248 x5_1).f4, (rd_T95 y248 x5_1).f5⟩ : S95) : List (S95))).bind fun y249 => ((some (y249.set (x5_1 : Int).toNat (⟨(rd_T95 y249 x5_1).f0, (rd_T95 y249 x5_1).f1, (rd_T95 y249 x5_1).f2, wrap64 ((wrap64 ((wrap64 (x1_1 + 1)) + 1)) + 1), (rd_T95 y249 x5_1).f4, (rd_T95 y249 x5_1).f5⟩ : S95) : List (S95))).bind fun y250 => ((some (y250.set (x5_1 : Int).toNat (⟨(rd_T95 y250 x5_1).f0, (rd_T95 y250 x5_1).f1, (rd_T95 y250 x5_1).f2, (rd_T95 y250 x5_1).f3, wrap64 ((wrap64 ((wrap64 ((wrap64 (x1_1 + 1)) + 1)) + 1)) + 1), (rd_T95 y250 x5_1).f5⟩ : S95) : List (S95))).bind fun y251 => (laws_markProbeBoxS.l0 k1 (y251.set (x5_1 : Int).toNat (⟨(rd_T95 y251 x5_1).f0, (rd_T95 y251 x5_1).f1, (rd_T95 y251 x5_1).f2, (rd_T95 y251 x5_1).f3, (rd_T95 y251 x5_1).f4, wrap64 ((wrap64 ((wrap64 ((wrap64 ((wrap64 (x1_1 + 1)) + 1)) + 1)) + 1)) + 1)⟩ : S95)) (wrap64 ((wrap64 ((wrap64 ((wrap64 ((wrap64 ((wrap64 (x1_1 + 1)) + 1)) + 1)) + 1)) + 1)) + 1)) (wrap64 (x5_1 + 1))))))) = some (r1, r2) := yh
     have Ny247 := ra hy_
     clear hy_
     obtain ⟨y248, hy_⟩ : ∃ y_ : List (S95), y_ = (y247.set (x5_1 : Int).toNat (⟨(rd_T95 y247 x5_1).f0, wrap64 (x1_1 + 1), (rd_T95 y247 x5_1).f2, (rd_T95 y247 x5_1).f3, (rd_T95 y247 x5_1).f4, (rd_T95 y247 x5_1).f5⟩ : S95)) := ⟨_, rfl⟩
     replace H : ((some (y248.set (x5_1 : Int).toNat (⟨(rd_T95 y248 x5_1).f0, (rd_T95 y248 x5_1).f1, wrap64 ((wrap64 (x1_1 + 1)) + 1), (rd_T95 y248 x5_1).f3, (rd_T95 y248 x5_1).f4, (rd_T95 y248 x5_1).f5⟩ : S95) : List (S95))).bind fun y249 => ((some (y249.set (x5_1 : Int).toNat (⟨(rd_T95 y249 x5_1).f0, (rd_T95 y249 x5_1).f1, (rd_T95 y249 x5_1).f2, wrap64 ((wrap64 ((wrap64 (x1_1 + 1)) + 1)) + 1), (rd_T95 y249 x5_1).f4, (rd_T95 y249 x5_1).f5⟩ : S95) : List (S95))).bind fun y250 => ((some (y250.set (x5_1 : Int).toNat (⟨(rd_T95 y250 x5_1).f0, (rd_T95 y250 x5_1).f1, (rd_T95 y250 x5_1).f2, (rd_T95 y250 x5_1).f3, wrap64 ((wrap64 ((wrap64 ((wrap64 (x1_1 + 1)) + 1)) + 1)) + 1), (rd_T95 y250 x5_1).f5⟩ : S95) : List (S95))).bind fun y251 => (laws_markProbeBoxS.l0 k1 (y251.set (x5_1 : Int).toNat (⟨(rd_T95 y251 x5_1).f0, (rd_T95 y251 x5_1).f1, (rd_T95 y251 x5_1).f2, (rd_T95 y251 x5_1).f3, (rd_T95 y251 x5_1).f4, wrap64 ((wrap64 ((wrap64 ((wrap64 ((wrap64 (x1_1 + 1)) + 1)) + 1)) + 1)) + 1)⟩ : S95)) (wrap64 ((wrap64 ((wrap64 ((wrap64 ((wrap64 ((wrap64 (x1_1 + 1)) + 1)) + 1)) + 1)) + 1)) + 1)) (wrap64 (x5_1 + 1)))))) = some (r1, r2) := yh
     have Ny248 := ra hy_
     clear hy_
     obtain ⟨y249, hy_⟩ : ∃ y_ : List (S95), y_ = (y248.set (x5_1 : Int).toNat (⟨(rd_T95 y248 x5_1).f0, (rd_T95 y248 x5_1).f1, wrap64 ((wrap64 (x1_1 + 1)) + 1), (rd_T95 y248 x5_1).f3, (rd_T95 y248 x5_1).f4, (rd_T95 y248 x5_1).f5⟩ : S95)) := ⟨_, rfl⟩
     replace H : ((some (y249.set (x5_1 : Int).toNat (⟨(rd_T95 y249 x5_1).f0, (rd_T95 y249 x5_1).f1, (rd_T95 y249 x5_1).f2, wrap64 ((wrap64 ((wrap64 (x1_1 + 1)) + 1)) + 1), (rd_T95 y249 x5_1).f4, (rd_T95 y249 x5_1).f5⟩ : S95) : List (S95))).bind fun y250 => ((some (y250.set (x5_1 : Int).toNat (⟨(rd_T95 y250 x5_1).f0, (rd_T95 y250 x5_1).f1, (rd_T95 y250 x5_1).f2, (rd_T95 y250 x5_1).f3, wrap64 ((wrap64 ((wrap64 ((wrap64 (x1_1 + 1)) + 1)) + 1)) + 1), (rd_T95 y250 x5_1).f5⟩ : S95) : List (S95))).bind fun y251 => (laws_markProbeBoxS.l0 k1 (y251.set (x5_1 : Int).toNat (⟨(rd_T95 y251 x5_1).f0, (rd_T95 y251 x5_1).f1, (rd_T95 y251 x5_1).f2, (rd_T95 y251 x5_1).f3, (rd_T95 y251 x5_1).f4, wrap64 ((wrap64 ((wrap64 ((wrap64 ((wrap64 (x1_1 + 1)) + 1)) + 1)) + 1)) + 1)⟩ : S95)) (wrap64 ((wrap64 ((wrap64 ((wrap64 ((wrap64 ((wrap64 (x1_1 + 1)) + 1)) + 1)) + 1)) + 1)) + 1)) (wrap64 (x5_1 + 1))))) = some (r1, r2) := yh
     have Ny249 := ra hy_
     clear hy_
     obtain ⟨y250, hy_⟩ : ∃ y_ : List (S95), y_ = (y249.set (x5_1 : Int).toNat (⟨(rd_T95 y249 x5_1).f0, (rd_T95 y249 x5_1).f1, (rd_T95 y249 x5_1).f2, wrap64 ((wrap64 ((wrap64 (x1_1 + 1)) + 1)) + 1), (rd_T95 y249 x5_1).f4, (rd_T95 y249 x5_1).f5⟩ : S95)) := ⟨_, rfl⟩
     replace H : ((some (y250.set (x5_1 : Int).toNat (⟨(rd_T95 y250 x5_1).f0, (rd_T95 y250 x5_1).f1, (rd_T95 y250 x5_1).f2, (rd_T95 y250 x5_1).f3, wrap64 ((wrap64 ((wrap64 ((wrap64 (x1_1 + 1)) + 1)) + 1)) + 1), (rd_T95 y250 x5_1).f5⟩ : S95) : List (S95))).bind fun y251 => (laws_markProbeBoxS.l0 k1 (y251.set (x5_1 : Int).toNat (⟨(rd_T95 y251 x5_1).f0, (rd_T95 y251 x5_1).f1, (rd_T95 y251 x5_1).f2, (rd_T95 y251 x5_1).f3, (rd_T95 y251 x5_1).f4, wrap64 ((wrap64 ((wrap64 ((wrap64 ((wrap64 (x1_1 + 1)) + 1)) + 1)) + 1)) + 1)⟩ : S95)) (wrap64 ((wrap64 ((wrap64 ((wrap64 ((wrap64 ((wrap64 (x1_1 + 1)) + 1)) + 1)) + 1)) + 1)) + 1)) (wrap64 (x5_1 + 1)))) = some (r1, r2) := yh
     have Ny250 := ra hy_
     clear hy_
     obtain ⟨y251, hy_⟩ : ∃ y_ : List (S95), y_ = (y250.set (x5_1 : Int).toNat (⟨(rd_T95 y250 x5_1).f0, (rd_T95 y250 x5_1).f1, (rd_T95 y250 x5_1).f2, (rd_T95 y250 x5_1).f3, wrap64 ((wrap64 ((wrap64 ((wrap64 (x1_1 + 1)) + 1)) + 1)) + 1), (rd_T95 y250 x5_1).f5⟩ : S95)) := ⟨_, rfl⟩
     replace H : (laws_markProbeBoxS.l0 k1 (y251.set (x5_1 : Int).toNat (⟨(rd_T95 y251 x5_1).f0, (rd_T95 y251 x5_1).f1, (rd_T95 y251 x5_1).f2, (rd_T95 y251 x5_1).f3, (rd_T95 y251 x5_1).f4, wrap64 ((wrap64 ((wrap64 ((wrap64 ((wrap64 (x1_1 + 1)) + 1)) + 1)) + 1)) + 1)⟩ : S95)) (wrap64 ((wrap64 ((wrap64 ((wrap64 ((wrap64 ((wrap64 (x1_1 + 1)) + 1)) + 1)) + 1)) + 1)) + 1)) (wrap64 (x5_1 + 1))) = some (r1, r2) := yh
     have Ny251 := ra hy_
     clear hy_
     obtain ⟨y252, hy_⟩ : ∃ y_ : List (S95), y_ = (y251.set (x5_1 : Int).toNat (⟨(rd_T95 y251 x5_1).f0, (rd_T95 y251 x5_1).f1, (rd_T95 y251 x5_1).f2, (rd_T95 y251 x5_1).f3, (rd_T95 y251 x5_1).f4, wrap64 ((wrap64 ((wrap64 ((wrap64 ((wrap64 (x1_1 + 1)) + 1)) + 1)) + 1)) + 1)⟩ : S95)) := ⟨_, rfl⟩
     replace H : (laws_markProbeBoxS.l0 k1 y252 (wrap64 ((wrap64 ((wrap64 ((wrap64 ((wrap64 ((wrap64 (x1_1 + 1)) + 1)) + 1)) + 1)) + 1)) + 1)) (wrap64 (x5_1 + 1))) = some (r1, r2) := yh
     have Ny252 := ra hy_
     clear hy_
     have H' := Aside0.mk H
     clear H
     obtain ⟨Ao11, co11, eo11⟩ := Kd.R_slice HO_0.out
     subst eo11
     have p5 : 0 ≤ (x5_1 : Int) := od
     have q5 : (x5_1 : Int) < ((x0_1.length : Int) : Int) := od
     obtain ⟨go5, co5, eo5, gb5, gl5, cl5, HG5⟩ := Kd.R_form HO_0.out (by omega)
     (first | cases eo5 | (injection eo5 with ea_ en_ ec_; (first | subst ea_ | (injection ea_ with ea_; subst ea_)); subst ec_; clear en_))
     have GB5 := Aside0.mk gb5
     have GG5 := Aside0.mk HG5
     clear gb5 gl5 HG5
     have HMgo5 := ra (show (P0_ go5 ∨ w.heap.size ≤ go5) from (HO_0.out.1 _ rfl))
     obtain ⟨ce5, hcl5, hM5, hcc5, hfr5⟩ := Kd.R_elem HO_0.out z95 (x5_1 : Int) p5 q5
     obtain rfl := k95_openM hM5
     have hx5_0 : wr.cell? ⟨go5, (x5_1 : Int).toNat * 6, none⟩ = some (.int .i64 ((rd_T95 x0_1 x5_1).f0)) := hcc5 0 _ rfl
     have hx5_1 : wr.cell? ⟨go5, (x5_1 : Int).toNat * 6 + 1, none⟩ = some (.int .i64 ((rd_T95 x0_1 x5_1).f1)) := hcc5 1 _ rfl
     have hx5_2 : wr.cell? ⟨go5, (x5_1 : Int).toNat * 6 + 2, none⟩ = some (.int .i64 ((rd_T95 x0_1 x5_1).f2)) := hcc5 2 _ rfl
     have hx5_3 : wr.cell? ⟨go5, (x5_1 : Int).toNat * 6 + 3, none⟩ = some (.int .i64 ((rd_T95 x0_1 x5_1).f3)) := hcc5 3 _ rfl
     have hx5_4 : wr.cell? ⟨go5, (x5_1 : Int).toNat * 6 + 4, none⟩ = some (.int .i64 ((rd_T95 x0_1 x5_1).f4)) := hcc5 4 _ rfl
     have hx5_5 : wr.cell? ⟨go5, (x5_1 : Int).toNat * 6 + 5, none⟩ = some (.int .i64 ((rd_T95 x0_1 x5_1).f5)) := hcc5 5 _ rfl
     have hf5_0 : wr.frozen? ⟨go5, (x5_1 : Int).toNat * 6, none⟩ = false := hfr5 0
     have hf5_1 : wr.frozen? ⟨go5, (x5_1 : Int).toNat * 6 + 1, none⟩ = false := hfr5 1
     have hf5_2 : wr.frozen? ⟨go5, (x5_1 : Int).toNat * 6 + 2, none⟩ = false := hfr5 2
     have hf5_3 : wr.frozen? ⟨go5, (x5_1 : Int).toNat * 6 + 3, none⟩ = false := hfr5 3
     have hf5_4 : wr.frozen? ⟨go5, (x5_1 : Int).toNat * 6 + 4, none⟩ = false := hfr5 4
     have hf5_5 : wr.frozen? ⟨go5, (x5_1 : Int).toNat * 6 + 5, none⟩ = false := hfr5 5
     clear hcl5 hcc5 hfr5 hM5
     replace p5 := eq_true p5
     replace q5 := eq_true q5
     have HX12 := ra (show Kd.R k95 95 wr w0.heap.size (fun k_ => (P0_ k_ ∨ w.heap.size ≤ k_)) (.slice (some ⟨go5, 0, none⟩) x0_1.length co11) x0_1 from (rq HO_0))
     obtain ⟨ce12, hcl12, hM12, hcc12, hfr12⟩ := Kd.R_elem HX12.out z95 (x5_1 : Int) (od) (by have h_ : (x5_1 : Int) < ((x0_1.length : Int) : Int) := od; first | exact h_ | (have e_ := (Kd.R_reads' HO_0.out).1; omega) | simpa using h_)
     obtain rfl := k95_openM hM12
     have HP12 := Kd.R_seg HX12.out (x5_1 : Int) (od) (by have h_ : (x5_1 : Int) < ((x0_1.length : Int) : Int) := od; first | exact h_ | (have e_ := (Kd.R_reads' HO_0.out).1; omega) | simpa using h_) (seg := [.int .i64 x1_1]) (j := 0) hcl12 hcc12 (show 1 ≤ 6 from by decide) (x' := (⟨x1_1, (rd_T95 x0_1 x5_1).f1, (rd_T95 x0_1 x5_1).f2, (rd_T95 x0_1 x5_1).f3, (rd_T95 x0_1 x5_1).f4, (rd_T95 x0_1 x5_1).f5⟩ : S95)) (k95_mkM _ _ _ (⟨x1_1, (rd_T95 x0_1 x5_1).f1, (rd_T95 x0_1 x5_1).f2, (rd_T95 x0_1 x5_1).f3, (rd_T95 x0_1 x5_1).f4, (rd_T95 x0_1 x5_1).f5⟩ : S95) ) (fun _ hk => hk)
     have hx12_0 := hcc12 0 _ rfl
     (try simp only [show (k95).sz = 6 from rfl, Nat.mul_one, Nat.add_zero] at hx12_0)
     have hf12_0 := hfr12 0
     (try simp only [show (k95).sz = 6 from rfl, Nat.mul_one, Nat.add_zero] at hf12_0)
     clear hcl12 hcc12 hfr12 hM12
     go_wp2_with (first | ((with_reducible refine gate_store (t := 3) (p := 16) rfl ?_); refine store_event (t := 3) (p := 16) (v := ?vo_w13) (w1 := (wr.setCell ⟨go5, (x5_1 : Int).toNat * 6, none⟩ (.int .i64 x1_1))) ?hg ?ho ?hn ?hr ?_; (case ho => rfl); (case hg => rfl); (case hn => rfl); (case hr => first | (go_simp; done) | (go_simp; rfl)); intro w13 hw; have hg : wr.grownBy w13 (some go5) := (by rw [hw]; exact HP12.2); have hp_ : Kd.R k95 95 w13 w0.heap.size (fun k_ => (P0_ k_ ∨ w.heap.size ≤ k_)) (.slice (some ⟨go5, 0, none⟩) x0_1.length co11) y247 := (by rw [hw, Ny247.out]; exact HP12.1); clear HP12; have _ := ra (hp_); have _ := ra ((by rw [hw]; exact below_set (HB.out) GB5.out : Below w0.heap.size w0 w13)); have _ := ra (Kept.of_grown (S := (fun k_ => P0_ k_)) hg (by repeat (first | (with_reducible first | exact HK.out | apply Kept.alloc | apply Kept.drewN | apply Kept.drew) | exact HK.out)) (fun k_ e_ => (HO_0.out.1 k_ e_))); clear HO_0 HB HK; rename_i HO_0 HB HK; clear hg hw hp_; have p6 : 0 ≤ (x5_1 : Int) := od; have q6 : (x5_1 : Int) < ((x0_1.length : Int) : Int) := od; obtain ⟨ce6, hcl6, hM6, hcc6, hfr6⟩ := Kd.R_elem HO_0.out z95 (x5_1 : Int) p6 q6; obtain rfl := k95_openM hM6; have hx6_0 : w13.cell? ⟨go5, (x5_1 : Int).toNat * 6, none⟩ = some (.int .i64 ((rd_T95 y247 x5_1).f0)) := hcc6 0 _ rfl; have hx6_1 : w13.cell? ⟨go5, (x5_1 : Int).toNat * 6 + 1, none⟩ = some (.int .i64 ((rd_T95 y247 x5_1).f1)) := hcc6 1 _ rfl; have hx6_2 : w13.cell? ⟨go5, (x5_1 : Int).toNat * 6 + 2, none⟩ = some (.int .i64 ((rd_T95 y247 x5_1).f2)) := hcc6 2 _ rfl; have hx6_3 : w13.cell? ⟨go5, (x5_1 : Int).toNat * 6 + 3, none⟩ = some (.int .i64 ((rd_T95 y247 x5_1).f3)) := hcc6 3 _ rfl; have hx6_4 : w13.cell? ⟨go5, (x5_1 : Int).toNat * 6 + 4, none⟩ = some (.int .i64 ((rd_T95 y247 x5_1).f4)) := hcc6 4 _ rfl; have hx6_5 : w13.cell? ⟨go5, (x5_1 : Int).toNat * 6 + 5, none⟩ = some (.int .i64 ((rd_T95 y247 x5_1).f5)) := hcc6 5 _ rfl; have hf6_0 : w13.frozen? ⟨go5, (x5_1 : Int).toNat * 6, none⟩ = false := hfr6 0; have hf6_1 : w13.frozen? ⟨go5, (x5_1 : Int).toNat * 6 + 1, none⟩ = false := hfr6 1; have hf6_2 : w13.frozen? ⟨go5, (x5_1 : Int).toNat * 6 + 2, none⟩ = false := hfr6 2; have hf6_3 : w13.frozen? ⟨go5, (x5_1 : Int).toNat * 6 + 3, none⟩ = false := hfr6 3; have hf6_4 : w13.frozen? ⟨go5, (x5_1 : Int).toNat * 6 + 4, none⟩ = false := hfr6 4; have hf6_5 : w13.frozen? ⟨go5, (x5_1 : Int).toNat * 6 + 5, none⟩ = false := hfr6 5; clear hcl6 hcc6 hfr6 hM6; replace p6 := eq_true p6; replace q6 := eq_true q6; have HX14 := ra (show Kd.R k95 95 w13 w0.heap.size (fun k_ => (P0_ k_ ∨ w.heap.size ≤ k_)) (.slice (some ⟨go5, 0, none⟩) x0_1.length co11) y247 from (rq HO_0)); obtain ⟨ce14, hcl14, hM14, hcc14, hfr14⟩ := Kd.R_elem HX14.out z95 (x5_1 : Int) (od) (by have h_ : (x5_1 : Int) < ((x0_1.length : Int) : Int) := od; first | exact h_ | (have e_ := (Kd.R_reads' HO_0.out).1; omega) | simpa using h_); obtain rfl := k95_openM hM14; have HP14 := Kd.R_seg HX14.out (x5_1 : Int) (od) (by have h_ : (x5_1 : Int) < ((x0_1.length : Int) : Int) := od; first | exact h_ | (have e_ := (Kd.R_reads' HO_0.out).1; omega) | simpa using h_) (seg := [.int .i64 (wrap64 (x1_1 + 1))]) (j := 1) hcl14 hcc14 (show 2 ≤ 6 from by decide) (x' := (⟨(rd_T95 y247 x5_1).f0, wrap64 (x1_1 + 1), (rd_T95 y247 x5_1).f2, (rd_T95 y247 x5_1).f3, (rd_T95 y247 x5_1).f4, (rd_T95 y247 x5_1).f5⟩ : S95)) (k95_mkM _ _ _ (⟨(rd_T95 y247 x5_1).f0, wrap64 (x1_1 + 1), (rd_T95 y247 x5_1).f2, (rd_T95 y247 x5_1).f3, (rd_T95 y247 x5_1).f4, (rd_T95 y247 x5_1).f5⟩ : S95) ) (fun _ hk => hk); have hx14_1 := hcc14 1 _ rfl; (try simp only [show (k95).sz = 6 from rfl, Nat.mul_one, Nat.add_zero] at hx14_1); have hf14_1 := hfr14 1; (try simp only [show (k95).sz = 6 from rfl, Nat.mul_one, Nat.add_zero] at hf14_1); clear hcl14 hcc14 hfr14 hM14) | ((with_reducible refine gate_store (t := 3) (p := 23) rfl ?_); refine store_event (t := 3) (p := 23) (v := ?vo_w15) (w1 := (w13.setCell ⟨go5, (x5_1 : Int).toNat * 6 + 1, none⟩ (.int .i64 (wrap64 (x1_1 + 1))))) ?hg ?ho ?hn ?hr ?_; (case ho => rfl); (case hg => rfl); (case hn => rfl); (case hr => first | (go_simp; done) | (go_simp; rfl)); intro w15 hw; have hg : w13.grownBy w15 (some go5) := (by rw [hw]; exact HP14.2); have hp_ : Kd.R k95 95 w15 w0.heap.size (fun k_ => (P0_ k_ ∨ w.heap.size ≤ k_)) (.slice (some ⟨go5, 0, none⟩) x0_1.length co11) y248 := (by rw [hw, Ny248.out]; exact HP14.1); clear HP14; have _ := ra (hp_); have _ := ra ((by rw [hw]; exact below_set (HB.out) GB5.out : Below w0.heap.size w0 w15)); have _ := ra (Kept.of_grown (S := (fun k_ => P0_ k_)) hg (by repeat (first | (with_reducible first | exact HK.out | apply Kept.alloc | apply Kept.drewN | apply Kept.drew) | exact HK.out)) (fun k_ e_ => (HO_0.out.1 k_ e_))); clear HO_0 HB HK; rename_i HO_0 HB HK; clear hg hw hp_; have p7 : 0 ≤ (x5_1 : Int) := od; have q7 : (x5_1 : Int) < ((x0_1.length : Int) : Int) := od; obtain ⟨ce7, hcl7, hM7, hcc7, hfr7⟩ := Kd.R_elem HO_0.out z95 (x5_1 : Int) p7 q7; obtain rfl := k95_openM hM7; have hx7_0 : w15.cell? ⟨go5, (x5_1 : Int).toNat * 6, none⟩ = some (.int .i64 ((rd_T95 y248 x5_1).f0)) := hcc7 0 _ rfl; have hx7_1 : w15.cell? ⟨go5, (x5_1 : Int).toNat * 6 + 1, none⟩ = some (.int .i64 ((rd_T95 y248 x5_1).f1)) := hcc7 1 _ rfl; have hx7_2 : w15.cell? ⟨go5, (x5_1 : Int).toNat * 6 + 2, none⟩ = some (.int .i64 ((rd_T95 y248 x5_1).f2)) := hcc7 2 _ rfl; have hx7_3 : w15.cell? ⟨go5, (x5_1 : Int).toNat * 6 + 3, none⟩ = some (.int .i64 ((rd_T95 y248 x5_1).f3)) := hcc7 3 _ rfl; have hx7_4 : w15.cell? ⟨go5, (x5_1 : Int).toNat * 6 + 4, none⟩ = some (.int .i64 ((rd_T95 y248 x5_1).f4)) := hcc7 4 _ rfl; have hx7_5 : w15.cell? ⟨go5, (x5_1 : Int).toNat * 6 + 5, none⟩ = some (.int .i64 ((rd_T95 y248 x5_1).f5)) := hcc7 5 _ rfl; have hf7_0 : w15.frozen? ⟨go5, (x5_1 : Int).toNat * 6, none⟩ = false := hfr7 0; have hf7_1 : w15.frozen? ⟨go5, (x5_1 : Int).toNat * 6 + 1, none⟩ = false := hfr7 1; have hf7_2 : w15.frozen? ⟨go5, (x5_1 : Int).toNat * 6 + 2, none⟩ = false := hfr7 2; have hf7_3 : w15.frozen? ⟨go5, (x5_1 : Int).toNat * 6 + 3, none⟩ = false := hfr7 3; have hf7_4 : w15.frozen? ⟨go5, (x5_1 : Int).toNat * 6 + 4, none⟩ = false := hfr7 4; have hf7_5 : w15.frozen? ⟨go5, (x5_1 : Int).toNat * 6 + 5, none⟩ = false := hfr7 5; clear hcl7 hcc7 hfr7 hM7; replace p7 := eq_true p7; replace q7 := eq_true q7; have HX16 := ra (show Kd.R k95 95 w15 w0.heap.size (fun k_ => (P0_ k_ ∨ w.heap.size ≤ k_)) (.slice (some ⟨go5, 0, none⟩) x0_1.length co11) y248 from (rq HO_0)); obtain ⟨ce16, hcl16, hM16, hcc16, hfr16⟩ := Kd.R_elem HX16.out z95 (x5_1 : Int) (od) (by have h_ : (x5_1 : Int) < ((x0_1.length : Int) : Int) := od; first | exact h_ | (have e_ := (Kd.R_reads' HO_0.out).1; omega) | simpa using h_); obtain rfl := k95_openM hM16; have HP16 := Kd.R_seg HX16.out (x5_1 : Int) (od) (by have h_ : (x5_1 : Int) < ((x0_1.length : Int) : Int) := od; first | exact h_ | (have e_ := (Kd.R_reads' HO_0.out).1; omega) | simpa using h_) (seg := [.int .i64 (wrap64 ((wrap64 (x1_1 + 1)) + 1))]) (j := 2) hcl16 hcc16 (show 3 ≤ 6 from by decide) (x' := (⟨(rd_T95 y248 x5_1).f0, (rd_T95 y248 x5_1).f1, wrap64 ((wrap64 (x1_1 + 1)) + 1), (rd_T95 y248 x5_1).f3, (rd_T95 y248 x5_1).f4, (rd_T95 y248 x5_1).f5⟩ : S95)) (k95_mkM _ _ _ (⟨(rd_T95 y248 x5_1).f0, (rd_T95 y248 x5_1).f1, wrap64 ((wrap64 (x1_1 + 1)) + 1), (rd_T95 y248 x5_1).f3, (rd_T95 y248 x5_1).f4, (rd_T95 y248 x5_1).f5⟩ : S95) ) (fun _ hk => hk); have hx16_2 := hcc16 2 _ rfl; (try simp only [show (k95).sz = 6 from rfl, Nat.mul_one, Nat.add_zero] at hx16_2); have hf16_2 := hfr16 2; (try simp only [show (k95).sz = 6 from rfl, Nat.mul_one, Nat.add_zero] at hf16_2); clear hcl16 hcc16 hfr16 hM16) | ((with_reducible refine gate_store (t := 3) (p := 30) rfl ?_); refine store_event (t := 3) (p := 30) (v := ?vo_w17) (w1 := (w15.setCell ⟨go5, (x5_1 : Int).toNat * 6 + 2, none⟩ (.int .i64 (wrap64 ((wrap64 (x1_1 + 1)) + 1))))) ?hg ?ho ?hn ?hr ?_; (case ho => rfl); (case hg => rfl); (case hn => rfl); (case hr => first | (go_simp; done) | (go_simp; rfl)); intro w17 hw; have hg : w15.grownBy w17 (some go5) := (by rw [hw]; exact HP16.2); have hp_ : Kd.R k95 95 w17 w0.heap.size (fun k_ => (P0_ k_ ∨ w.heap.size ≤ k_)) (.slice (some ⟨go5, 0, none⟩) x0_1.length co11) y249 := (by rw [hw, Ny249.out]; exact HP16.1); clear HP16; have _ := ra (hp_); have _ := ra ((by rw [hw]; exact below_set (HB.out) GB5.out : Below w0.heap.size w0 w17)); have _ := ra (Kept.of_grown (S := (fun k_ => P0_ k_)) hg (by repeat (first | (with_reducible first | exact HK.out | apply Kept.alloc | apply Kept.drewN | apply Kept.drew) | exact HK.out)) (fun k_ e_ => (HO_0.out.1 k_ e_))); clear HO_0 HB HK; rename_i HO_0 HB HK; clear hg hw hp_; have p8 : 0 ≤ (x5_1 : Int) := od; have q8 : (x5_1 : Int) < ((x0_1.length : Int) : Int) := od; obtain ⟨ce8, hcl8, hM8, hcc8, hfr8⟩ := Kd.R_elem HO_0.out z95 (x5_1 : Int) p8 q8; obtain rfl := k95_openM hM8; have hx8_0 : w17.cell? ⟨go5, (x5_1 : Int).toNat * 6, none⟩ = some (.int .i64 ((rd_T95 y249 x5_1).f0)) := hcc8 0 _ rfl; have hx8_1 : w17.cell? ⟨go5, (x5_1 : Int).toNat * 6 + 1, none⟩ = some (.int .i64 ((rd_T95 y249 x5_1).f1)) := hcc8 1 _ rfl; have hx8_2 : w17.cell? ⟨go5, (x5_1 : Int).toNat * 6 + 2, none⟩ = some (.int .i64 ((rd_T95 y249 x5_1).f2)) := hcc8 2 _ rfl; have hx8_3 : w17.cell? ⟨go5, (x5_1 : Int).toNat * 6 + 3, none⟩ = some (.int .i64 ((rd_T95 y249 x5_1).f3)) := hcc8 3 _ rfl; have hx8_4 : w17.cell? ⟨go5, (x5_1 : Int).toNat * 6 + 4, none⟩ = some (.int .i64 ((rd_T95 y249 x5_1).f4)) := hcc8 4 _ rfl; have hx8_5 : w17.cell? ⟨go5, (x5_1 : Int).toNat * 6 + 5, none⟩ = some (.int .i64 ((rd_T95 y249 x5_1).f5)) := hcc8 5 _ rfl; have hf8_0 : w17.frozen? ⟨go5, (x5_1 : Int).toNat * 6, none⟩ = false := hfr8 0; have hf8_1 : w17.frozen? ⟨go5, (x5_1 : Int).toNat * 6 + 1, none⟩ = false := hfr8 1; have hf8_2 : w17.frozen? ⟨go5, (x5_1 : Int).toNat * 6 + 2, none⟩ = false := hfr8 2; have hf8_3 : w17.frozen? ⟨go5, (x5_1 : Int).toNat * 6 + 3, none⟩ = false := hfr8 3; have hf8_4 : w17.frozen? ⟨go5, (x5_1 : Int).toNat * 6 + 4, none⟩ = false := hfr8 4; have hf8_5 : w17.frozen? ⟨go5, (x5_1 : Int).toNat * 6 + 5, none⟩ = false := hfr8 5; clear hcl8 hcc8 hfr8 hM8; replace p8 := eq_true p8; replace q8 := eq_true q8; have HX18 := ra (show Kd.R k95 95 w17 w0.heap.size (fun k_ => (P0_ k_ ∨ w.heap.size ≤ k_)) (.slice (some ⟨go5, 0, none⟩) x0_1.length co11) y249 from (rq HO_0)); obtain ⟨ce18, hcl18, hM18, hcc18, hfr18⟩ := Kd.R_elem HX18.out z95 (x5_1 : Int) (od) (by have h_ : (x5_1 : Int) < ((x0_1.length : Int) : Int) := od; first | exact h_ | (have e_ := (Kd.R_reads' HO_0.out).1; omega) | simpa using h_); obtain rfl := k95_openM hM18; have HP18 := Kd.R_seg HX18.out (x5_1 : Int) (od) (by have h_ : (x5_1 : Int) < ((x0_1.length : Int) : Int) := od; first | exact h_ | (have e_ := (Kd.R_reads' HO_0.out).1; omega) | simpa using h_) (seg := [.int .i64 (wrap64 ((wrap64 ((wrap64 (x1_1 + 1)) + 1)) + 1))]) (j := 3) hcl18 hcc18 (show 4 ≤ 6 from by decide) (x' := (⟨(rd_T95 y249 x5_1).f0, (rd_T95 y249 x5_1).f1, (rd_T95 y249 x5_1).f2, wrap64 ((wrap64 ((wrap64 (x1_1 + 1)) + 1)) + 1), (rd_T95 y249 x5_1).f4, (rd_T95 y249 x5_1).f5⟩ : S95)) (k95_mkM _ _ _ (⟨(rd_T95 y249 x5_1).f0, (rd_T95 y249 x5_1).f1, (rd_T95 y249 x5_1).f2, wrap64 ((wrap64 ((wrap64 (x1_1 + 1)) + 1)) + 1), (rd_T95 y249 x5_1).f4, (rd_T95 y249 x5_1).f5⟩ : S95) ) (fun _ hk => hk); have hx18_3 := hcc18 3 _ rfl; (try simp only [show (k95).sz = 6 from rfl, Nat.mul_one, Nat.add_zero] at hx18_3); have hf18_3 := hfr18 3; (try simp only [show (k95).sz = 6 from rfl, Nat.mul_one, Nat.add_zero] at hf18_3); clear hcl18 hcc18 hfr18 hM18) | ((with_reducible refine gate_store (t := 3) (p := 37) rfl ?_); refine store_event (t := 3) (p := 37) (v := ?vo_w19) (w1 := (w17.setCell ⟨go5, (x5_1 : Int).toNat * 6 + 3, none⟩ (.int .i64 (wrap64 ((wrap64 ((wrap64 (x1_1 + 1)) + 1)) + 1))))) ?hg ?ho ?hn ?hr ?_; (case ho => rfl); (case hg => rfl); (case hn => rfl); (case hr => first | (go_simp; done) | (go_simp; rfl)); intro w19 hw; have hg : w17.grownBy w19 (some go5) := (by rw [hw]; exact HP18.2); have hp_ : Kd.R k95 95 w19 w0.heap.size (fun k_ => (P0_ k_ ∨ w.heap.size ≤ k_)) (.slice (some ⟨go5, 0, none⟩) x0_1.length co11) y250 := (by rw [hw, Ny250.out]; exact HP18.1); clear HP18; have _ := ra (hp_); have _ := ra ((by rw [hw]; exact below_set (HB.out) GB5.out : Below w0.heap.size w0 w19)); have _ := ra (Kept.of_grown (S := (fun k_ => P0_ k_)) hg (by repeat (first | (with_reducible first | exact HK.out | apply Kept.alloc | apply Kept.drewN | apply Kept.drew) | exact HK.out)) (fun k_ e_ => (HO_0.out.1 k_ e_))); clear HO_0 HB HK; rename_i HO_0 HB HK; clear hg hw hp_; have p9 : 0 ≤ (x5_1 : Int) := od; have q9 : (x5_1 : Int) < ((x0_1.length : Int) : Int) := od; obtain ⟨ce9, hcl9, hM9, hcc9, hfr9⟩ := Kd.R_elem HO_0.out z95 (x5_1 : Int) p9 q9; obtain rfl := k95_openM hM9; have hx9_0 : w19.cell? ⟨go5, (x5_1 : Int).toNat * 6, none⟩ = some (.int .i64 ((rd_T95 y250 x5_1).f0)) := hcc9 0 _ rfl; have hx9_1 : w19.cell? ⟨go5, (x5_1 : Int).toNat * 6 + 1, none⟩ = some (.int .i64 ((rd_T95 y250 x5_1).f1)) := hcc9 1 _ rfl; have hx9_2 : w19.cell? ⟨go5, (x5_1 : Int).toNat * 6 + 2, none⟩ = some (.int .i64 ((rd_T95 y250 x5_1).f2)) := hcc9 2 _ rfl; have hx9_3 : w19.cell? ⟨go5, (x5_1 : Int).toNat * 6 + 3, none⟩ = some (.int .i64 ((rd_T95 y250 x5_1).f3)) := hcc9 3 _ rfl; have hx9_4 : w19.cell? ⟨go5, (x5_1 : Int).toNat * 6 + 4, none⟩ = some (.int .i64 ((rd_T95 y250 x5_1).f4)) := hcc9 4 _ rfl; have hx9_5 : w19.cell? ⟨go5, (x5_1 : Int).toNat * 6 + 5, none⟩ = some (.int .i64 ((rd_T95 y250 x5_1).f5)) := hcc9 5 _ rfl; have hf9_0 : w19.frozen? ⟨go5, (x5_1 : Int).toNat * 6, none⟩ = false := hfr9 0; have hf9_1 : w19.frozen? ⟨go5, (x5_1 : Int).toNat * 6 + 1, none⟩ = false := hfr9 1; have hf9_2 : w19.frozen? ⟨go5, (x5_1 : Int).toNat * 6 + 2, none⟩ = false := hfr9 2; have hf9_3 : w19.frozen? ⟨go5, (x5_1 : Int).toNat * 6 + 3, none⟩ = false := hfr9 3; have hf9_4 : w19.frozen? ⟨go5, (x5_1 : Int).toNat * 6 + 4, none⟩ = false := hfr9 4; have hf9_5 : w19.frozen? ⟨go5, (x5_1 : Int).toNat * 6 + 5, none⟩ = false := hfr9 5; clear hcl9 hcc9 hfr9 hM9; replace p9 := eq_true p9; replace q9 := eq_true q9; have HX20 := ra (show Kd.R k95 95 w19 w0.heap.size (fun k_ => (P0_ k_ ∨ w.heap.size ≤ k_)) (.slice (some ⟨go5, 0, none⟩) x0_1.length co11) y250 from (rq HO_0)); obtain ⟨ce20, hcl20, hM20, hcc20, hfr20⟩ := Kd.R_elem HX20.out z95 (x5_1 : Int) (od) (by have h_ : (x5_1 : Int) < ((x0_1.length : Int) : Int) := od; first | exact h_ | (have e_ := (Kd.R_reads' HO_0.out).1; omega) | simpa using h_); obtain rfl := k95_openM hM20; have HP20 := Kd.R_seg HX20.out (x5_1 : Int) (od) (by have h_ : (x5_1 : Int) < ((x0_1.length : Int) : Int) := od; first | exact h_ | (have e_ := (Kd.R_reads' HO_0.out).1; omega) | simpa using h_) (seg := [.int .i64 (wrap64 ((wrap64 ((wrap64 ((wrap64 (x1_1 + 1)) + 1)) + 1)) + 1))]) (j := 4) hcl20 hcc20 (show 5 ≤ 6 from by decide) (x' := (⟨(rd_T95 y250 x5_1).f0, (rd_T95 y250 x5_1).f1, (rd_T95 y250 x5_1).f2, (rd_T95 y250 x5_1).f3, wrap64 ((wrap64 ((wrap64 ((wrap64 (x1_1 + 1)) + 1)) + 1)) + 1), (rd_T95 y250 x5_1).f5⟩ : S95)) (k95_mkM _ _ _ (⟨(rd_T95 y250 x5_1).f0, (rd_T95 y250 x5_1).f1, (rd_T95 y250 x5_1).f2, (rd_T95 y250 x5_1).f3, wrap64 ((wrap64 ((wrap64 ((wrap64 (x1_1 + 1)) + 1)) + 1)) + 1), (rd_T95 y250 x5_1).f5⟩ : S95) ) (fun _ hk => hk); have hx20_4 := hcc20 4 _ rfl; (try simp only [show (k95).sz = 6 from rfl, Nat.mul_one, Nat.add_zero] at hx20_4); have hf20_4 := hfr20 4; (try simp only [show (k95).sz = 6 from rfl, Nat.mul_one, Nat.add_zero] at hf20_4); clear hcl20 hcc20 hfr20 hM20) | ((with_reducible refine gate_store (t := 3) (p := 44) rfl ?_); refine store_event (t := 3) (p := 44) (v := ?vo_w21) (w1 := (w19.setCell ⟨go5, (x5_1 : Int).toNat * 6 + 4, none⟩ (.int .i64 (wrap64 ((wrap64 ((wrap64 ((wrap64 (x1_1 + 1)) + 1)) + 1)) + 1))))) ?hg ?ho ?hn ?hr ?_; (case ho => rfl); (case hg => rfl); (case hn => rfl); (case hr => first | (go_simp; done) | (go_simp; rfl)); intro w21 hw; have hg : w19.grownBy w21 (some go5) := (by rw [hw]; exact HP20.2); have hp_ : Kd.R k95 95 w21 w0.heap.size (fun k_ => (P0_ k_ ∨ w.heap.size ≤ k_)) (.slice (some ⟨go5, 0, none⟩) x0_1.length co11) y251 := (by rw [hw, Ny251.out]; exact HP20.1); clear HP20; have _ := ra (hp_); have _ := ra ((by rw [hw]; exact below_set (HB.out) GB5.out : Below w0.heap.size w0 w21)); have _ := ra (Kept.of_grown (S := (fun k_ => P0_ k_)) hg (by repeat (first | (with_reducible first | exact HK.out | apply Kept.alloc | apply Kept.drewN | apply Kept.drew) | exact HK.out)) (fun k_ e_ => (HO_0.out.1 k_ e_))); clear HO_0 HB HK; rename_i HO_0 HB HK; clear hg hw hp_; have p10 : 0 ≤ (x5_1 : Int) := od; have q10 : (x5_1 : Int) < ((x0_1.length : Int) : Int) := od; obtain ⟨ce10, hcl10, hM10, hcc10, hfr10⟩ := Kd.R_elem HO_0.out z95 (x5_1 : Int) p10 q10; obtain rfl := k95_openM hM10; have hx10_0 : w21.cell? ⟨go5, (x5_1 : Int).toNat * 6, none⟩ = some (.int .i64 ((rd_T95 y251 x5_1).f0)) := hcc10 0 _ rfl; have hx10_1 : w21.cell? ⟨go5, (x5_1 : Int).toNat * 6 + 1, none⟩ = some (.int .i64 ((rd_T95 y251 x5_1).f1)) := hcc10 1 _ rfl; have hx10_2 : w21.cell? ⟨go5, (x5_1 : Int).toNat * 6 + 2, none⟩ = some (.int .i64 ((rd_T95 y251 x5_1).f2)) := hcc10 2 _ rfl; have hx10_3 : w21.cell? ⟨go5, (x5_1 : Int).toNat * 6 + 3, none⟩ = some (.int .i64 ((rd_T95 y251 x5_1).f3)) := hcc10 3 _ rfl; have hx10_4 : w21.cell? ⟨go5, (x5_1 : Int).toNat * 6 + 4, none⟩ = some (.int .i64 ((rd_T95 y251 x5_1).f4)) := hcc10 4 _ rfl; have hx10_5 : w21.cell? ⟨go5, (x5_1 : Int).toNat * 6 + 5, none⟩ = some (.int .i64 ((rd_T95 y251 x5_1).f5)) := hcc10 5 _ rfl; have hf10_0 : w21.frozen? ⟨go5, (x5_1 : Int).toNat * 6, none⟩ = false := hfr10 0; have hf10_1 : w21.frozen? ⟨go5, (x5_1 : Int).toNat * 6 + 1, none⟩ = false := hfr10 1; have hf10_2 : w21.frozen? ⟨go5, (x5_1 : Int).toNat * 6 + 2, none⟩ = false := hfr10 2; have hf10_3 : w21.frozen? ⟨go5, (x5_1 : Int).toNat * 6 + 3, none⟩ = false := hfr10 3; have hf10_4 : w21.frozen? ⟨go5, (x5_1 : Int).toNat * 6 + 4, none⟩ = false := hfr10 4; have hf10_5 : w21.frozen? ⟨go5, (x5_1 : Int).toNat * 6 + 5, none⟩ = false := hfr10 5; clear hcl10 hcc10 hfr10 hM10; replace p10 := eq_true p10; replace q10 := eq_true q10; have HX22 := ra (show Kd.R k95 95 w21 w0.heap.size (fun k_ => (P0_ k_ ∨ w.heap.size ≤ k_)) (.slice (some ⟨go5, 0, none⟩) x0_1.length co11) y251 from (rq HO_0)); obtain ⟨ce22, hcl22, hM22, hcc22, hfr22⟩ := Kd.R_elem HX22.out z95 (x5_1 : Int) (od) (by have h_ : (x5_1 : Int) < ((x0_1.length : Int) : Int) := od; first | exact h_ | (have e_ := (Kd.R_reads' HO_0.out).1; omega) | simpa using h_); obtain rfl := k95_openM hM22; have HP22 := Kd.R_seg HX22.out (x5_1 : Int) (od) (by have h_ : (x5_1 : Int) < ((x0_1.length : Int) : Int) := od; first | exact h_ | (have e_ := (Kd.R_reads' HO_0.out).1; omega) | simpa using h_) (seg := [.int .i64 (wrap64 ((wrap64 ((wrap64 ((wrap64 ((wrap64 (x1_1 + 1)) + 1)) + 1)) + 1)) + 1))]) (j := 5) hcl22 hcc22 (show 6 ≤ 6 from by decide) (x' := (⟨(rd_T95 y251 x5_1).f0, (rd_T95 y251 x5_1).f1, (rd_T95 y251 x5_1).f2, (rd_T95 y251 x5_1).f3, (rd_T95 y251 x5_1).f4, wrap64 ((wrap64 ((wrap64 ((wrap64 ((wrap64 (x1_1 + 1)) + 1)) + 1)) + 1)) + 1)⟩ : S95)) (k95_mkM _ _ _ (⟨(rd_T95 y251 x5_1).f0, (rd_T95 y251 x5_1).f1, (rd_T95 y251 x5_1).f2, (rd_T95 y251 x5_1).f3, (rd_T95 y251 x5_1).f4, wrap64 ((wrap64 ((wrap64 ((wrap64 ((wrap64 (x1_1 + 1)) + 1)) + 1)) + 1)) + 1)⟩ : S95) ) (fun _ hk => hk); have hx22_5 := hcc22 5 _ rfl; (try simp only [show (k95).sz = 6 from rfl, Nat.mul_one, Nat.add_zero] at hx22_5); have hf22_5 := hfr22 5; (try simp only [show (k95).sz = 6 from rfl, Nat.mul_one, Nat.add_zero] at hf22_5); clear hcl22 hcc22 hfr22 hM22) | ((with_reducible refine gate_store (t := 3) (p := 51) rfl ?_); refine store_event (t := 3) (p := 51) (v := ?vo_w23) (w1 := (w21.setCell ⟨go5, (x5_1 : Int).toNat * 6 + 5, none⟩ (.int .i64 (wrap64 ((wrap64 ((wrap64 ((wrap64 ((wrap64 (x1_1 + 1)) + 1)) + 1)) + 1)) + 1))))) ?hg ?ho ?hn ?hr ?_; (case ho => rfl); (case hg => rfl); (case hn => rfl); (case hr => first | (go_simp; done) | (go_simp; rfl)); intro w23 hw; have hg : w21.grownBy w23 (some go5) := (by rw [hw]; exact HP22.2); have hp_ : Kd.R k95 95 w23 w0.heap.size (fun k_ => (P0_ k_ ∨ w.heap.size ≤ k_)) (.slice (some ⟨go5, 0, none⟩) x0_1.length co11) y252 := (by rw [hw, Ny252.out]; exact HP22.1); clear HP22; have _ := ra (hp_); have _ := ra ((by rw [hw]; exact below_set (HB.out) GB5.out : Below w0.heap.size w0 w23)); have _ := ra (Kept.of_grown (S := (fun k_ => P0_ k_)) hg (by repeat (first | (with_reducible first | exact HK.out | apply Kept.alloc | apply Kept.drewN | apply Kept.drew) | exact HK.out)) (fun k_ e_ => (HO_0.out.1 k_ e_))); clear HO_0 HB HK; rename_i HO_0 HB HK; clear hg hw hp_))
     go_roundg k1
     case measure => have := HK1.out; omega
     case rel => exact ⟨(y252), (wrap64 ((wrap64 ((wrap64 ((wrap64 ((wrap64 ((wrap64 (x1_1 + 1)) + 1)) + 1)) + 1)) + 1)) + 1)), (wrap64 (x5_1 + 1)), rs, rs, H', ⟨by have := HK1.out; omega⟩, ⟨rq HO_0⟩, ⟨by repeat (first | (with_reducible first | exact HK.out | apply Kept.alloc | apply Kept.drewN | apply Kept.drew) | exact HK.out)⟩, ⟨bq⟩⟩
    ·rw [if_neg c4] at H
     exact absurd H (by simp)
   ·rw [if_neg c3] at H
    have c3b0 : decide (x5_1 < (x0_1.length : Int)) = false := decide_eq_false c3
    clear c3
    simp only [Option.some.injEq, Prod.mk.injEq] at H
    obtain ⟨rfl, rfl⟩ := H
    obtain ⟨Ao24, co24, eo24⟩ := Kd.R_slice HO_0.out
    subst eo24
    go_wp2
    go_ret
    exact ⟨re, rq HO_0, bq, by repeat (first | (with_reducible first | exact HK.out | apply Kept.alloc | apply Kept.drewN | apply Kept.drew) | exact HK.out)⟩
set_option maxHeartbeats 8000000 in
set_option maxRecDepth 100000 in
theorem laws_markProbeTube.calls (k : Nat) (a0_0 : ByteArray) (P0_1_ : Nat → Prop) (u9000_ : Value) (l0_1 : List (S95)) (a1 : Int) (r1 : Int) (r2 : List (S95)) (w0 w : World) (hB : Below w0.heap.size w0 w) (ho0_1 : Kd.R k95 95 w w0.heap.size P0_1_ u9000_ l0_1) (h : laws_markProbeTube.f k a0_0 l0_1 a1 = some (r1, r2)) :
  Calls Try.prog 23 #[.agg #[.string a0_0, u9000_], .int .i64 a1] w fun e w' => e = .returned (.int .i64 r1) ∧ Kd.R k95 95 w' w0.heap.size (fun k_ => (P0_1_ k_ ∨ w.heap.size ≤ k_)) u9000_ r2 ∧ Below w0.heap.size w0 w' ∧ Kept w w' (fun k_ => P0_1_ k_) := by
 have hu40 := Try.underlying40
 have HO0_1 := ra (show Kd.R k95 95 w w0.heap.size (fun k_ => (P0_1_ k_ ∨ w.heap.size ≤ k_)) u9000_ l0_1 from Kd.R_mono ho0_1 (fun k_ hk => (.inl hk)))
 have HK := ra (Kept.refl w (fun k_ => P0_1_ k_))
 have HW0 := Aside0.mk hB.size
 have HB := Aside0.mk hB
 clear hB
 have H : ((laws_markProbeBoxS.f k l0_1 a1).bind fun bt350 => (some (bt350.1, bt350.2))) = some (r1, r2) := h
 clear h
 obtain ⟨⟨t350, t351⟩, A3, H⟩ := bo H
 try dsimp only at H
 simp only [Option.some.injEq, Prod.mk.injEq] at H
 obtain ⟨rfl, rfl⟩ := H
 obtain ⟨Ao4, co4, eo4⟩ := Kd.R_slice HO0_1.out
 subst eo4
 go_enter Try.func23, Try.ntmps23
 go_wp2_with (first | ((with_reducible refine gate_dst (N := 2) rfl ?_); refine be 2 #[.string a0_0, .slice Ao4 l0_1.length co4] 40 ?_; intro gb349 hg w5 hbox hb; have _ := ra (Kd.R_below (rq HO0_1) hb); have _ := ra (Kept.below (S := (fun k_ => P0_1_ k_)) (by repeat (first | (with_reducible first | exact HK.out | apply Kept.alloc | apply Kept.drewN | apply Kept.drew) | exact HK.out)) hb); have _ := bs hb; have _ := ra (hbox); have _ := ra ((by rw [hg]; exact (by first | exact HK.out.1 | exact (show Kept w _ (fun k_ => P0_1_ k_) from by repeat (first | (with_reducible first | exact HK.out | apply Kept.alloc | apply Kept.drewN | apply Kept.drew) | exact HK.out)).1) : w.heap.size ≤ gb349)); have _ := ra ((by rw [hg]; exact (below_size bq) : w0.heap.size ≤ gb349)); clear HO0_1 HK HB; rename_i HO0_1 HK HB BK349 GW349 GE349; clear hb hbox hg; obtain ⟨hcz6_0, hcz6_1, hfz6_0, hfz6_1⟩ := zc2 BK349) | ((with_reducible refine gate_callee (f := 49) rfl ?_); refine gl (some 8) Try.func49 #[.slice Ao4 l0_1.length co4, .int .i64 a1] ?_; (with_reducible refine (laws_markProbeBoxS.calls k (fun k_ => some k_ = (.slice Ao4 l0_1.length co4 : Value).ownBlock) (.slice Ao4 l0_1.length co4) l0_1 a1 t350 t351 w0 _ ?side1 ?side2 A3.out).mono ?_); (case side1 => repeat (first | (with_reducible first | exact HB.out | apply below_alloc | apply pw_below_drewN | apply below_drew1 | refine below_set ?_ GE349.out) | exact HB.out)); (case side2 => exact Kd.R_tight rfl HO0_1.out); rintro e w7 ⟨rfl, hy0, hb, hkp⟩; refine ⟨_, rfl, ?_⟩; have _ := ra (Kd.R_reok rfl hy0 (fun k_ e_ => HO0_1.out.1 k_ e_)); have _ := ra (blk_kept (bk BK349) hkp (fun hs_ => (fun e_ => (Kd.R_ne HO0_1.out BK349.out (by decide)) e_) hs_)); have _ := ra (Kept.then_ (S := (fun k_ => P0_1_ k_)) (by repeat (first | (with_reducible first | exact HK.out | apply Kept.alloc | apply Kept.drewN | apply Kept.drew | refine Kept.setCell ?_ (.inr GW349.out) _) | exact HK.out)) hkp (fun k_ hs_ => (fun e_ => (HO0_1.out.1 k_ e_.symm)) hs_)); have _ := ra (hb); clear HO0_1 BK349 HK HB; rename_i HO0_1 BK349 HK HB; (try clear hb); (try clear hkp); (try clear hy0)))
 go_ret
 exact ⟨re, rq HO0_1, bq, by repeat (first | (with_reducible first | exact HK.out | apply Kept.alloc | apply Kept.drewN | apply Kept.drew | refine Kept.setCell ?_ (.inr GW349.out) _) | exact HK.out)⟩
set_option maxHeartbeats 8000000 in
set_option maxRecDepth 100000 in
theorem laws_heldProbeBoxS.calls (k : Nat) (A0 : Option Addr) (c0 : Nat) (l0 : List (S95)) (a1 : Int) (r : Int) (w : World) (hr0 : Kd.C k95 w A0 l0.length l0) (hc0 : l0.length ≤ c0) (h : laws_heldProbeBoxS.f k l0 a1 = some r) :
  Calls Try.prog 64 #[.slice A0 l0.length c0, .int .i64 a1] w fun e w' => e = .returned (.int .i64 r) ∧ Drawn0 w w' := by
 have HR0 := Aside0.mk hr0
 have HC0 := Aside0.mk hc0
 clear hr0 hc0
 have H : (laws_heldProbeBoxS.l0 k l0 a1 0) = some r := h
 clear h
 have H' := Aside0.mk H
 clear H
 go_enter Try.func64, Try.ntmps64
 go_wp2
 go_loopg [1, 5] k (fun kq v1 v5 w' => ∃ (x1_1 : Int) (x5_1 : Int), v1 = .int .i64 x1_1 ∧ v5 = .int .i64 x5_1 ∧ Aside0 (laws_heldProbeBoxS.l0 kq l0 x1_1 x5_1 = some r) ∧ Aside0 (kq ≤ k) ∧ Drawn0 w w')
 case atStart => exact ⟨(a1), (0), rs, rs, H', ⟨Nat.le_refl _⟩, by repeat (first | exact Drawn0.refl _ | apply Drawn0.step)⟩
 case round =>
  clear H'
  obtain ⟨x1_1, x5_1, rfl, rfl, HA, HK1, ⟨m1, rfl⟩⟩ := hrel
  cases gk with
  | zero => exact absurd HA.out (by simp [laws_heldProbeBoxS.l0])
  | succ k1 =>
   have H := HA.out
   clear HA
   simp only [laws_heldProbeBoxS.l0] at H
   by_cases c3 : x5_1 < (l0.length : Int)
   ·rw [if_pos c3] at H
    have c3b0 : decide (x5_1 < (l0.length : Int)) = true := decide_eq_true c3
    clear c3
    by_cases c4 : 0 ≤ x5_1
    ·rw [if_pos c4] at H
     have c4b0 : decide (0 ≤ x5_1) = true := decide_eq_true c4
     clear c4
     by_cases c5 : ((rd_T95 l0 x5_1).f0) = x1_1
     ·rw [if_pos c5] at H
      have c5b0 : (((rd_T95 l0 x5_1).f0) == x1_1) = true := beq_iff_eq.mpr c5
      have c5b1 : (((rd_T95 l0 x5_1).f0) != x1_1) = false := bne_eq_false_iff_eq.mpr c5
      clear c5
      by_cases c6 : ((rd_T95 l0 x5_1).f1) = (wrap64 (x1_1 + 1))
      ·rw [if_pos c6] at H
       have c6b0 : (((rd_T95 l0 x5_1).f1) == (wrap64 (x1_1 + 1))) = true := beq_iff_eq.mpr c6
       have c6b1 : (((rd_T95 l0 x5_1).f1) != (wrap64 (x1_1 + 1))) = false := bne_eq_false_iff_eq.mpr c6
       clear c6
       by_cases c7 : ((rd_T95 l0 x5_1).f2) = (wrap64 ((wrap64 (x1_1 + 1)) + 1))
       ·rw [if_pos c7] at H
        have c7b0 : (((rd_T95 l0 x5_1).f2) == (wrap64 ((wrap64 (x1_1 + 1)) + 1))) = true := beq_iff_eq.mpr c7
        have c7b1 : (((rd_T95 l0 x5_1).f2) != (wrap64 ((wrap64 (x1_1 + 1)) + 1))) = false := bne_eq_false_iff_eq.mpr c7
        clear c7
        by_cases c8 : ((rd_T95 l0 x5_1).f3) = (wrap64 ((wrap64 ((wrap64 (x1_1 + 1)) + 1)) + 1))
        ·rw [if_pos c8] at H
         have c8b0 : (((rd_T95 l0 x5_1).f3) == (wrap64 ((wrap64 ((wrap64 (x1_1 + 1)) + 1)) + 1))) = true := beq_iff_eq.mpr c8
         have c8b1 : (((rd_T95 l0 x5_1).f3) != (wrap64 ((wrap64 ((wrap64 (x1_1 + 1)) + 1)) + 1))) = false := bne_eq_false_iff_eq.mpr c8
         clear c8
         by_cases c9 : ((rd_T95 l0 x5_1).f4) = (wrap64 ((wrap64 ((wrap64 ((wrap64 (x1_1 + 1)) + 1)) + 1)) + 1))
         ·rw [if_pos c9] at H
          have c9b0 : (((rd_T95 l0 x5_1).f4) == (wrap64 ((wrap64 ((wrap64 ((wrap64 (x1_1 + 1)) + 1)) + 1)) + 1))) = true := beq_iff_eq.mpr c9
          have c9b1 : (((rd_T95 l0 x5_1).f4) != (wrap64 ((wrap64 ((wrap64 ((wrap64 (x1_1 + 1)) + 1)) + 1)) + 1))) = false := bne_eq_false_iff_eq.mpr c9
          clear c9
          by_cases c10 : ((rd_T95 l0 x5_1).f5) = (wrap64 ((wrap64 ((wrap64 ((wrap64 ((wrap64 (x1_1 + 1)) + 1)) + 1)) + 1)) + 1))
          ·rw [if_pos c10] at H
           have c10b0 : (((rd_T95 l0 x5_1).f5) == (wrap64 ((wrap64 ((wrap64 ((wrap64 ((wrap64 (x1_1 + 1)) + 1)) + 1)) + 1)) + 1))) = true := beq_iff_eq.mpr c10
           have c10b1 : (((rd_T95 l0 x5_1).f5) != (wrap64 ((wrap64 ((wrap64 ((wrap64 ((wrap64 (x1_1 + 1)) + 1)) + 1)) + 1)) + 1))) = false := bne_eq_false_iff_eq.mpr c10
           clear c10
           have H' := Aside0.mk H
           clear H
           have p785 : 0 ≤ (x5_1 : Int) := od
           have q785 : x5_1 < (l0.length : Int) := od
           obtain ⟨ad785, e785, hx785_0, hx785_1, hx785_2, hx785_3, hx785_4, hx785_5⟩ := at_T95 HR0.out x5_1 p785 q785
           cases e785
           replace p785 := eq_true p785
           replace q785 := eq_true q785
           have p786 : 0 ≤ (x5_1 : Int) := od
           have q786 : x5_1 < (l0.length : Int) := od
           obtain ⟨ad786, e786, hx786_0, hx786_1, hx786_2, hx786_3, hx786_4, hx786_5⟩ := at_T95 HR0.out x5_1 p786 q786
           obtain rfl : ad785 = ad786 := (by injection e786)
           replace p786 := eq_true p786
           replace q786 := eq_true q786
           have p787 : 0 ≤ (x5_1 : Int) := od
           have q787 : x5_1 < (l0.length : Int) := od
           obtain ⟨ad787, e787, hx787_0, hx787_1, hx787_2, hx787_3, hx787_4, hx787_5⟩ := at_T95 HR0.out x5_1 p787 q787
           obtain rfl : ad785 = ad787 := (by injection e787)
           replace p787 := eq_true p787
           replace q787 := eq_true q787
           have p788 : 0 ≤ (x5_1 : Int) := od
           have q788 : x5_1 < (l0.length : Int) := od
           obtain ⟨ad788, e788, hx788_0, hx788_1, hx788_2, hx788_3, hx788_4, hx788_5⟩ := at_T95 HR0.out x5_1 p788 q788
           obtain rfl : ad785 = ad788 := (by injection e788)
           replace p788 := eq_true p788
           replace q788 := eq_true q788
           have p789 : 0 ≤ (x5_1 : Int) := od
           have q789 : x5_1 < (l0.length : Int) := od
           obtain ⟨ad789, e789, hx789_0, hx789_1, hx789_2, hx789_3, hx789_4, hx789_5⟩ := at_T95 HR0.out x5_1 p789 q789
           obtain rfl : ad785 = ad789 := (by injection e789)
           replace p789 := eq_true p789
           replace q789 := eq_true q789
           have p790 : 0 ≤ (x5_1 : Int) := od
           have q790 : x5_1 < (l0.length : Int) := od
           obtain ⟨ad790, e790, hx790_0, hx790_1, hx790_2, hx790_3, hx790_4, hx790_5⟩ := at_T95 HR0.out x5_1 p790 q790
           obtain rfl : ad785 = ad790 := (by injection e790)
           replace p790 := eq_true p790
           replace q790 := eq_true q790
           go_wp2
           go_roundg k1
           case measure => have := HK1.out; omega
           case rel => exact ⟨(wrap64 ((wrap64 ((wrap64 ((wrap64 ((wrap64 ((wrap64 (x1_1 + 1)) + 1)) + 1)) + 1)) + 1)) + 1)), (wrap64 (x5_1 + 1)), rs, rs, H', ⟨by have := HK1.out; omega⟩, by repeat (first | exact Drawn0.refl _ | apply Drawn0.step)⟩
          ·rw [if_neg c10] at H
           have c10b0 : (((rd_T95 l0 x5_1).f5) == (wrap64 ((wrap64 ((wrap64 ((wrap64 ((wrap64 (x1_1 + 1)) + 1)) + 1)) + 1)) + 1))) = false := beq_eq_false_iff_ne.mpr c10
           have c10b1 : (((rd_T95 l0 x5_1).f5) != (wrap64 ((wrap64 ((wrap64 ((wrap64 ((wrap64 (x1_1 + 1)) + 1)) + 1)) + 1)) + 1))) = true := bne_iff_ne.mpr c10
           obtain rfl := Option.some.inj H
           have p785 : 0 ≤ (x5_1 : Int) := od
           have q785 : x5_1 < (l0.length : Int) := od
           obtain ⟨ad785, e785, hx785_0, hx785_1, hx785_2, hx785_3, hx785_4, hx785_5⟩ := at_T95 HR0.out x5_1 p785 q785
           cases e785
           replace p785 := eq_true p785
           replace q785 := eq_true q785
           have p786 : 0 ≤ (x5_1 : Int) := od
           have q786 : x5_1 < (l0.length : Int) := od
           obtain ⟨ad786, e786, hx786_0, hx786_1, hx786_2, hx786_3, hx786_4, hx786_5⟩ := at_T95 HR0.out x5_1 p786 q786
           obtain rfl : ad785 = ad786 := (by injection e786)
           replace p786 := eq_true p786
           replace q786 := eq_true q786
           have p787 : 0 ≤ (x5_1 : Int) := od
           have q787 : x5_1 < (l0.length : Int) := od
           obtain ⟨ad787, e787, hx787_0, hx787_1, hx787_2, hx787_3, hx787_4, hx787_5⟩ := at_T95 HR0.out x5_1 p787 q787
           obtain rfl : ad785 = ad787 := (by injection e787)
           replace p787 := eq_true p787
           replace q787 := eq_true q787
           have p788 : 0 ≤ (x5_1 : Int) := od
           have q788 : x5_1 < (l0.length : Int) := od
           obtain ⟨ad788, e788, hx788_0, hx788_1, hx788_2, hx788_3, hx788_4, hx788_5⟩ := at_T95 HR0.out x5_1 p788 q788
           obtain rfl : ad785 = ad788 := (by injection e788)
           replace p788 := eq_true p788
           replace q788 := eq_true q788
           have p789 : 0 ≤ (x5_1 : Int) := od
           have q789 : x5_1 < (l0.length : Int) := od
           obtain ⟨ad789, e789, hx789_0, hx789_1, hx789_2, hx789_3, hx789_4, hx789_5⟩ := at_T95 HR0.out x5_1 p789 q789
           obtain rfl : ad785 = ad789 := (by injection e789)
           replace p789 := eq_true p789
           replace q789 := eq_true q789
           have p790 : 0 ≤ (x5_1 : Int) := od
           have q790 : x5_1 < (l0.length : Int) := od
           obtain ⟨ad790, e790, hx790_0, hx790_1, hx790_2, hx790_3, hx790_4, hx790_5⟩ := at_T95 HR0.out x5_1 p790 q790
           obtain rfl : ad785 = ad790 := (by injection e790)
           replace p790 := eq_true p790
           replace q790 := eq_true q790
           go_wp2
           go_ret
           exact ⟨by first | rfl | (simp; done) | (simp [*]; done), by repeat (first | exact Drawn0.refl _ | apply Drawn0.step)⟩
         ·rw [if_neg c9] at H
          have c9b0 : (((rd_T95 l0 x5_1).f4) == (wrap64 ((wrap64 ((wrap64 ((wrap64 (x1_1 + 1)) + 1)) + 1)) + 1))) = false := beq_eq_false_iff_ne.mpr c9
          have c9b1 : (((rd_T95 l0 x5_1).f4) != (wrap64 ((wrap64 ((wrap64 ((wrap64 (x1_1 + 1)) + 1)) + 1)) + 1))) = true := bne_iff_ne.mpr c9
          obtain rfl := Option.some.inj H
          have p785 : 0 ≤ (x5_1 : Int) := od
          have q785 : x5_1 < (l0.length : Int) := od
          obtain ⟨ad785, e785, hx785_0, hx785_1, hx785_2, hx785_3, hx785_4, hx785_5⟩ := at_T95 HR0.out x5_1 p785 q785
          cases e785
          replace p785 := eq_true p785
          replace q785 := eq_true q785
          have p786 : 0 ≤ (x5_1 : Int) := od
          have q786 : x5_1 < (l0.length : Int) := od
          obtain ⟨ad786, e786, hx786_0, hx786_1, hx786_2, hx786_3, hx786_4, hx786_5⟩ := at_T95 HR0.out x5_1 p786 q786
          obtain rfl : ad785 = ad786 := (by injection e786)
          replace p786 := eq_true p786
          replace q786 := eq_true q786
          have p787 : 0 ≤ (x5_1 : Int) := od
          have q787 : x5_1 < (l0.length : Int) := od
          obtain ⟨ad787, e787, hx787_0, hx787_1, hx787_2, hx787_3, hx787_4, hx787_5⟩ := at_T95 HR0.out x5_1 p787 q787
          obtain rfl : ad785 = ad787 := (by injection e787)
          replace p787 := eq_true p787
          replace q787 := eq_true q787
          have p788 : 0 ≤ (x5_1 : Int) := od
          have q788 : x5_1 < (l0.length : Int) := od
          obtain ⟨ad788, e788, hx788_0, hx788_1, hx788_2, hx788_3, hx788_4, hx788_5⟩ := at_T95 HR0.out x5_1 p788 q788
          obtain rfl : ad785 = ad788 := (by injection e788)
          replace p788 := eq_true p788
          replace q788 := eq_true q788
          have p789 : 0 ≤ (x5_1 : Int) := od
          have q789 : x5_1 < (l0.length : Int) := od
          obtain ⟨ad789, e789, hx789_0, hx789_1, hx789_2, hx789_3, hx789_4, hx789_5⟩ := at_T95 HR0.out x5_1 p789 q789
          obtain rfl : ad785 = ad789 := (by injection e789)
          replace p789 := eq_true p789
          replace q789 := eq_true q789
          go_wp2
          go_ret
          exact ⟨by first | rfl | (simp; done) | (simp [*]; done), by repeat (first | exact Drawn0.refl _ | apply Drawn0.step)⟩
        ·rw [if_neg c8] at H
         have c8b0 : (((rd_T95 l0 x5_1).f3) == (wrap64 ((wrap64 ((wrap64 (x1_1 + 1)) + 1)) + 1))) = false := beq_eq_false_iff_ne.mpr c8
         have c8b1 : (((rd_T95 l0 x5_1).f3) != (wrap64 ((wrap64 ((wrap64 (x1_1 + 1)) + 1)) + 1))) = true := bne_iff_ne.mpr c8
         obtain rfl := Option.some.inj H
         have p785 : 0 ≤ (x5_1 : Int) := od
         have q785 : x5_1 < (l0.length : Int) := od
         obtain ⟨ad785, e785, hx785_0, hx785_1, hx785_2, hx785_3, hx785_4, hx785_5⟩ := at_T95 HR0.out x5_1 p785 q785
         cases e785
         replace p785 := eq_true p785
         replace q785 := eq_true q785
         have p786 : 0 ≤ (x5_1 : Int) := od
         have q786 : x5_1 < (l0.length : Int) := od
         obtain ⟨ad786, e786, hx786_0, hx786_1, hx786_2, hx786_3, hx786_4, hx786_5⟩ := at_T95 HR0.out x5_1 p786 q786
         obtain rfl : ad785 = ad786 := (by injection e786)
         replace p786 := eq_true p786
         replace q786 := eq_true q786
         have p787 : 0 ≤ (x5_1 : Int) := od
         have q787 : x5_1 < (l0.length : Int) := od
         obtain ⟨ad787, e787, hx787_0, hx787_1, hx787_2, hx787_3, hx787_4, hx787_5⟩ := at_T95 HR0.out x5_1 p787 q787
         obtain rfl : ad785 = ad787 := (by injection e787)
         replace p787 := eq_true p787
         replace q787 := eq_true q787
         have p788 : 0 ≤ (x5_1 : Int) := od
         have q788 : x5_1 < (l0.length : Int) := od
         obtain ⟨ad788, e788, hx788_0, hx788_1, hx788_2, hx788_3, hx788_4, hx788_5⟩ := at_T95 HR0.out x5_1 p788 q788
         obtain rfl : ad785 = ad788 := (by injection e788)
         replace p788 := eq_true p788
         replace q788 := eq_true q788
         go_wp2
         go_ret
         exact ⟨by first | rfl | (simp; done) | (simp [*]; done), by repeat (first | exact Drawn0.refl _ | apply Drawn0.step)⟩
       ·rw [if_neg c7] at H
        have c7b0 : (((rd_T95 l0 x5_1).f2) == (wrap64 ((wrap64 (x1_1 + 1)) + 1))) = false := beq_eq_false_iff_ne.mpr c7
        have c7b1 : (((rd_T95 l0 x5_1).f2) != (wrap64 ((wrap64 (x1_1 + 1)) + 1))) = true := bne_iff_ne.mpr c7
        obtain rfl := Option.some.inj H
        have p785 : 0 ≤ (x5_1 : Int) := od
        have q785 : x5_1 < (l0.length : Int) := od
        obtain ⟨ad785, e785, hx785_0, hx785_1, hx785_2, hx785_3, hx785_4, hx785_5⟩ := at_T95 HR0.out x5_1 p785 q785
        cases e785
        replace p785 := eq_true p785
        replace q785 := eq_true q785
        have p786 : 0 ≤ (x5_1 : Int) := od
        have q786 : x5_1 < (l0.length : Int) := od
        obtain ⟨ad786, e786, hx786_0, hx786_1, hx786_2, hx786_3, hx786_4, hx786_5⟩ := at_T95 HR0.out x5_1 p786 q786
        obtain rfl : ad785 = ad786 := (by injection e786)
        replace p786 := eq_true p786
        replace q786 := eq_true q786
        have p787 : 0 ≤ (x5_1 : Int) := od
        have q787 : x5_1 < (l0.length : Int) := od
        obtain ⟨ad787, e787, hx787_0, hx787_1, hx787_2, hx787_3, hx787_4, hx787_5⟩ := at_T95 HR0.out x5_1 p787 q787
        obtain rfl : ad785 = ad787 := (by injection e787)
        replace p787 := eq_true p787
        replace q787 := eq_true q787
        go_wp2
        go_ret
        exact ⟨by first | rfl | (simp; done) | (simp [*]; done), by repeat (first | exact Drawn0.refl _ | apply Drawn0.step)⟩
      ·rw [if_neg c6] at H
       have c6b0 : (((rd_T95 l0 x5_1).f1) == (wrap64 (x1_1 + 1))) = false := beq_eq_false_iff_ne.mpr c6
       have c6b1 : (((rd_T95 l0 x5_1).f1) != (wrap64 (x1_1 + 1))) = true := bne_iff_ne.mpr c6
       obtain rfl := Option.some.inj H
       have p785 : 0 ≤ (x5_1 : Int) := od
       have q785 : x5_1 < (l0.length : Int) := od
       obtain ⟨ad785, e785, hx785_0, hx785_1, hx785_2, hx785_3, hx785_4, hx785_5⟩ := at_T95 HR0.out x5_1 p785 q785
       cases e785
       replace p785 := eq_true p785
       replace q785 := eq_true q785
       have p786 : 0 ≤ (x5_1 : Int) := od
       have q786 : x5_1 < (l0.length : Int) := od
       obtain ⟨ad786, e786, hx786_0, hx786_1, hx786_2, hx786_3, hx786_4, hx786_5⟩ := at_T95 HR0.out x5_1 p786 q786
       obtain rfl : ad785 = ad786 := (by injection e786)
       replace p786 := eq_true p786
       replace q786 := eq_true q786
       go_wp2
       go_ret
       exact ⟨by first | rfl | (simp; done) | (simp [*]; done), by repeat (first | exact Drawn0.refl _ | apply Drawn0.step)⟩
     ·rw [if_neg c5] at H
      have c5b0 : (((rd_T95 l0 x5_1).f0) == x1_1) = false := beq_eq_false_iff_ne.mpr c5
      have c5b1 : (((rd_T95 l0 x5_1).f0) != x1_1) = true := bne_iff_ne.mpr c5
      obtain rfl := Option.some.inj H
      have p785 : 0 ≤ (x5_1 : Int) := od
      have q785 : x5_1 < (l0.length : Int) := od
      obtain ⟨ad785, e785, hx785_0, hx785_1, hx785_2, hx785_3, hx785_4, hx785_5⟩ := at_T95 HR0.out x5_1 p785 q785
      cases e785
      replace p785 := eq_true p785
      replace q785 := eq_true q785
      go_wp2
      go_ret
      exact ⟨by first | rfl | (simp; done) | (simp [*]; done), by repeat (first | exact Drawn0.refl _ | apply Drawn0.step)⟩
    ·rw [if_neg c4] at H
     exact absurd H (by simp)
   ·rw [if_neg c3] at H
    have c3b0 : decide (x5_1 < (l0.length : Int)) = false := decide_eq_false c3
    clear c3
    obtain rfl := Option.some.inj H
    go_wp2
    go_ret
    exact ⟨by first | rfl | (simp; done) | (simp [*]; done), by repeat (first | exact Drawn0.refl _ | apply Drawn0.step)⟩
end Go.Proofs.Ytdbomnhdpniigaa.PA
