/- Contracts of the program's and the reference's functions (they began as prints of the kit's tool; shortened and joined). No condition beside what the Lean functions say. -/
import Derived.Test.YtgklmafdbgnohaaFPAd4
import Derived.Test.YtgklmafdbgnohaaFZCx5
import Derived.Test.YtgklmafdbgnohaaFG12
import Derived.Test.YtgklmafdbgnohaaFZCm7
import Derived.Test.YtgklmafdbgnohaaFZCy6
import Derived.Test.YtgklmafdbgnohaaFG8
section
namespace Go.Proofs.Ytgklmafdbgnohaa.PA
open Go.RowKit Go.Proofs.YtgklmafdbgnohaaW.PrintWords Go.Proofs.YtgklmafdbgnohaaW.PrintLast Go.Proofs.YtgklmafdbgnohaaW.PrintMore Go.Proofs.Ytgklmafdbgnohaa.Z
attribute [local go_sem] max2_int min2_int max_two min_two max_three min_three max_four min_four
set_option linter.unusedVariables false
set_option linter.unusedSimpArgs false
set_option maxHeartbeats 8000000 in
set_option maxRecDepth 100000 in
theorem laws_markText.calls (k : Nat) (a0 : Int) (r : ByteArray) (w : World) (h : laws_markText.f k a0 = some r) :
  Calls Try.prog 23 #[.int .i64 a0] w fun e w' => e = .returned (.string r) ∧ Below w.heap.size w w' := by
 have HB := ra (Below.refl w.heap.size w)
 have H : (if a0 ≤ 0 then (some (⟨#[109, 48]⟩ : ByteArray)) else (laws_markText.l0 k a0 (⟨#[]⟩ : ByteArray))) = some r := h
 clear h
 by_cases c2 : a0 ≤ 0
 ·rw [if_pos c2] at H
  have c2b0 : decide (a0 ≤ 0) = true := decide_eq_true c2
  clear c2
  obtain rfl := Option.some.inj H
  go_enter Try.func23, Try.ntmps23
  go_wp2
  go_ret
  exact ⟨re, bq⟩
 ·rw [if_neg c2] at H
  have c2b0 : decide (a0 ≤ 0) = false := decide_eq_false c2
  clear c2
  have H' := Aside0.mk H
  clear H
  go_enter Try.func23, Try.ntmps23
  go_wp2
  go_loopg [0, 3] k (fun kq v0 v3 w' => ∃ (x0_1 : Int) (x3_1 : ByteArray), v0 = .int .i64 x0_1 ∧ v3 = .string x3_1 ∧ Aside0 (laws_markText.l0 kq x0_1 x3_1 = some r) ∧ Aside0 (kq ≤ k) ∧ Aside0 (Below w.heap.size w w'))
  case atStart => exact ⟨(a0), ((⟨#[]⟩ : ByteArray)), rs, rs, H', ⟨Nat.le_refl _⟩, ⟨bq⟩⟩
  case round =>
   clear H'
   try clear c2
   try clear c2b0
   obtain ⟨x0_1, x3_1, rfl, rfl, HA, HK1, HB⟩ := hrel
   cases gk with
   | zero => exact absurd HA.out (by simp [laws_markText.l0])
   | succ k1 =>
    have H := HA.out
    clear HA
    simp only [laws_markText.l0] at H
    by_cases c3 : x0_1 > 0
    ·rw [if_pos c3] at H
     have c3b0 : decide (0 < x0_1) = true := decide_eq_true c3
     clear c3
     obtain ⟨y351, hy_⟩ : ∃ y_ : List Int, y_ = (([(wrap64 (48 + (Int.tmod x0_1 10))) % 256] : List Int)) := ⟨_, rfl⟩
     replace H : (if (strOfNums y351).size + x3_1.size ≤ 9223372036854775807 then (laws_markText.l0 k1 (wrap64 (Int.tdiv x0_1 10)) ((strOfNums y351) ++ x3_1)) else (none)) = some r := yh
     have Ny351 := ra hy_
     clear hy_
     by_cases c4 : (strOfNums y351).size + x3_1.size ≤ 9223372036854775807
     ·rw [if_pos c4] at H
      have c4b0 := eq_true c4
      have c4b1 : decide ((strOfNums y351).size + x3_1.size ≤ 9223372036854775807) = true := decide_eq_true c4
      try have c4b2 : (9223372036854775807 < (strOfNums y351).size + x3_1.size) = False := eq_false (Nat.not_lt.2 c4)
      have H' := Aside0.mk H
      clear H
      go_wp2_with (first | ((with_reducible refine gate_dst (N := 12) rfl ?_); refine Kd.R_lit (Kd.int .u8) _ 5 ?hg (N := 12) ?hd (xs := ([(wrap64 (48 + (Int.tmod x0_1 10))) % 256] : List Int)) (inner := [.int .u8 ((wrap64 (48 + (Int.tmod x0_1 10))) % 256)]) (ok := fun _ => True) (okp := fun _ => True) ?hr ?hp (fun _ hk => hk) trivial (Below.refl _ _) (Nat.le_refl _) (by simp) ?_; (case hd => rfl); (case hg => rfl); (case hr => first | (go_simp; done) | (go_simp; rfl)); (case hp => exact (Reps.one (show Kd.M (Kd.int .u8) _ _ _ ((wrap64 (48 + (Int.tmod x0_1 10))) % 256) [.int .u8 ((wrap64 (48 + (Int.tmod x0_1 10))) % 256)] from rfl) (Reps.none _ _))); intro v352 w5 ho6 hb hg_ hnew_; clear hg_ hnew_; (first | rw [← Ny351.out] at ho6 | (simp only [Int.reduceToNat] at ho6; rw [← Ny351.out] at ho6)); have _ := ra (Kd.R_lower ho6 (below_size bq)); have _ := bs hb; clear HB; rename_i HO353 HB; clear hb ho6; have hcv7 := own_string (P := Try.prog) Try.underlying81 Try.underlying5 Try.underlying9 (Kd.own_of_R HO353.out)))
      go_roundg k1
      case measure => have := HK1.out; omega
      case rel => exact ⟨(wrap64 (Int.tdiv x0_1 10)), ((strOfNums y351) ++ x3_1), rs, rs, H', ⟨by have := HK1.out; omega⟩, ⟨bq⟩⟩
     ·rw [if_neg c4] at H
      exact absurd H (by simp)
    ·rw [if_neg c3] at H
     have c3b0 : decide (0 < x0_1) = false := decide_eq_false c3
     clear c3
     by_cases c8 : 1 + x3_1.size ≤ 9223372036854775807
     ·rw [if_pos c8] at H
      have c8b0 := eq_true c8
      have c8b1 : decide (1 + x3_1.size ≤ 9223372036854775807) = true := decide_eq_true c8
      try have c8b2 : (9223372036854775807 < 1 + x3_1.size) = False := eq_false (Nat.not_lt.2 c8)
      obtain rfl := Option.some.inj H
      go_wp2
      go_ret
      exact ⟨re, bq⟩
     ·rw [if_neg c8] at H
      exact absurd H (by simp)
set_option maxHeartbeats 8000000 in
set_option maxRecDepth 100000 in
theorem laws_markProbeTubeS.calls (k : Nat) (P0_ : Nat → Prop) (u9000_ : Value) (l0 : List (S42)) (a1 : Int) (r1 : Int) (r2 : List (S42)) (w0 w : World) (hB : Below w0.heap.size w0 w) (ho0 : Kd.S k42 42 w w0.heap.size P0_ u9000_ l0) (h : laws_markProbeTubeS.f k l0 a1 = some (r1, r2)) :
  Calls Try.prog 10 #[u9000_, .int .i64 a1] w fun e w' => e = .returned (.int .i64 r1) ∧ Kd.S k42 42 w' w0.heap.size (fun k_ => P0_ k_) u9000_ r2 ∧ Below w0.heap.size w0 w' ∧ Kept w w' (fun k_ => P0_ k_) := by
 have HO0 := ra (show Kd.S k42 42 w w0.heap.size (fun k_ => P0_ k_) u9000_ l0 from ho0)
 have HK := ra (Kept.refl w (fun k_ => P0_ k_))
 have HW0 := Aside0.mk hB.size
 have HB := Aside0.mk hB
 clear hB
 have H : (laws_markProbeTubeS.l0 k l0 a1 0) = some (r1, r2) := h
 clear h
 have H' := Aside0.mk H
 clear H
 go_enter Try.func10, Try.ntmps10
 go_wp2
 go_loopg [1, 5] k (fun kq v1 v5 w' => ∃ (x0_1 : List (S42)) (x1_1 : Int) (x5_1 : Int), v1 = .int .i64 x1_1 ∧ v5 = .int .i64 x5_1 ∧ Aside0 (laws_markProbeTubeS.l0 kq x0_1 x1_1 x5_1 = some (r1, r2)) ∧ Aside0 (kq ≤ k) ∧ Aside0 (Kd.S k42 42 w' w0.heap.size (fun k_ => P0_ k_) u9000_ x0_1) ∧ Aside0 (Kept w w' (fun k_ => P0_ k_)) ∧ Aside0 (Below w0.heap.size w0 w'))
 case atStart => exact ⟨(l0), (a1), (0), rs, rs, H', ⟨Nat.le_refl _⟩, ⟨by (with_reducible repeat (first | apply Kd.S_alloc | apply Kd.S_drewN | apply Kd.S_drew)); exact HO0.out⟩, ⟨by repeat (first | (with_reducible first | exact HK.out | apply Kept.alloc | apply Kept.drewN | apply Kept.drew) | exact HK.out)⟩, ⟨bq⟩⟩
 case round =>
  clear H'
  obtain ⟨x0_1, x1_1, x5_1, rfl, rfl, HA, HK1, HO_0, HK, HB⟩ := hrel
  cases gk with
  | zero => exact absurd HA.out (by simp [laws_markProbeTubeS.l0])
  | succ k1 =>
   have H := HA.out
   clear HA
   simp only [laws_markProbeTubeS.l0] at H
   by_cases c3 : x5_1 < (x0_1.length : Int)
   ·rw [if_pos c3] at H
    have c3b0 : decide (x5_1 < (x0_1.length : Int)) = true := decide_eq_true c3
    clear c3
    obtain ⟨t360, A4, H⟩ := bo H
    by_cases c5 : 0 ≤ x5_1
    ·rw [if_pos c5] at H
     have c5b0 : decide (0 ≤ x5_1) = true := decide_eq_true c5
     clear c5
     obtain ⟨y361, hy_⟩ : ∃ y_ : List (S42), y_ = (x0_1.set (x5_1 : Int).toNat (⟨t360, (rd_T42 x0_1 x5_1).f1⟩ : S42)) := ⟨_, rfl⟩
     replace H : ((laws_markProbeBoxS.f k1 ((rd_T42 y361 x5_1).f1) (wrap64 (x1_1 + 1))).bind fun bt_ => (laws_markProbeTubeS.l0 k1 (y361.set (x5_1 : Int).toNat (⟨(rd_T42 y361 x5_1).f0, bt_.2⟩ : S42)) bt_.1 (wrap64 (x5_1 + 1)))) = some (r1, r2) := yh
     have Ny361 := ra hy_
     clear hy_
     obtain ⟨⟨t363, t363r⟩, A7, H⟩ := bo H
     try dsimp only at H
     have H' := Aside0.mk H
     clear H
     obtain ⟨Ao8, co8, eo8⟩ := Kd.S_slice HO_0.out
     subst eo8
     go_wp2_with (first | ((with_reducible refine gate_callee (f := 23) rfl ?_); refine gl (some 15) Try.func23 #[.int .i64 x1_1] ?_; (with_reducible refine (laws_markText.calls k1 x1_1 t360 _ A4.out).mono ?_); rintro e w9 ⟨rfl, hb⟩; refine ⟨_, rfl, ?_⟩; have _ := ra (Kd.S_below (by (with_reducible repeat (first | apply Kd.S_alloc | apply Kd.S_drewN | apply Kd.S_drew)); exact HO_0.out) hb); have _ := ra (Kept.below (S := (fun k_ => P0_ k_)) (by repeat (first | (with_reducible first | exact HK.out | apply Kept.alloc | apply Kept.drewN | apply Kept.drew) | exact HK.out)) hb); have _ := bs hb; clear HO_0 HK HB; rename_i HO_0 HK HB; (try clear hb); (try clear hb2); (try clear hk); (try clear hi); have p6 : 0 ≤ (x5_1 : Int) := od; have q6 : (x5_1 : Int) < ((x0_1.length : Int) : Int) := od; obtain ⟨go6, co6, eo6, gb6, gl6, cl6, HG6⟩ := Kd.S_form HO_0.out (by omega); (first | cases eo6 | (injection eo6 with ea_ en_ ec_; (first | subst ea_ | (injection ea_ with ea_; subst ea_)); subst ec_; clear en_)); have GB6 := Aside0.mk gb6; have GG6 := Aside0.mk HG6; clear gb6 gl6 HG6; have HMgo6 := ra (show (P0_ go6) from ((Kd.S_R HO_0.out).1 _ rfl)); obtain ⟨_, ce6, hcl6, hM6, hcc6, hfr6, _, _⟩ := Kd.S_elem HO_0.out z42 (x5_1 : Int) p6 q6; obtain ⟨ve6_1, rfl, ge6_1⟩ := k42_openM hM6; have hx6_0 : w9.cell? ⟨go6, (x5_1 : Int).toNat * 2, none⟩ = some (.string ((rd_T42 x0_1 x5_1).f0)) := hcc6 0 _ rfl; have hx6_1 : w9.cell? ⟨go6, (x5_1 : Int).toNat * 2 + 1, none⟩ = some (ve6_1) := hcc6 1 _ rfl; have hf6_0 : w9.frozen? ⟨go6, (x5_1 : Int).toNat * 2, none⟩ = false := hfr6 0; have hf6_1 : w9.frozen? ⟨go6, (x5_1 : Int).toNat * 2 + 1, none⟩ = false := hfr6 1; clear hcl6 hcc6 hfr6 hM6; replace p6 := eq_true p6; replace q6 := eq_true q6; have HX10 := ra (show Kd.S k42 42 w9 w0.heap.size (fun k_ => ((fun k_ => P0_ k_)) k_ ∧ ¬ ((fun _ => False)) k_) (.slice (some ⟨go6, 0, none⟩) x0_1.length co8) x0_1 from (by (with_reducible repeat (first | apply Kd.S_alloc | apply Kd.S_drewN | apply Kd.S_drew)); exact Kd.S_mono HO_0.out (fun k_ hk => ⟨hk, fun e_ => e_⟩))); obtain ⟨oki10, ce10, hcl10, hM10, hcc10, hfr10, hoki10, hH10⟩ := Kd.S_elem HX10.out z42 (x5_1 : Int) (od) (by have h_ : (x5_1 : Int) < ((x0_1.length : Int) : Int) := od; first | exact h_ | (have e_ := (Kd.S_reads' HO_0.out).1; omega) | simpa using h_); obtain ⟨ve10_1, rfl, ge10_1⟩ := k42_openM hM10; have HP10 := Kd.S_seg hH10 (od) (by have h_ : (x5_1 : Int) < ((x0_1.length : Int) : Int) := od; first | exact h_ | (have e_ := (Kd.S_reads' HO_0.out).1; omega) | simpa using h_) (seg := [.string t360]) (j := 0) (show 1 ≤ 2 from by decide) (x' := (⟨t360, (rd_T42 x0_1 x5_1).f1⟩ : S42)) (k42_mkM _ _ _ (⟨t360, (rd_T42 x0_1 x5_1).f1⟩ : S42) (Kd.R_mono ge10_1 (fun _ h_ => Or.inl h_))) (fun _ hk => hk) (fun k_ hk_ => hk_.elim); have hx10_0 := hcc10 0 _ rfl; (try simp only [show (k42).sz = 2 from rfl, Nat.mul_one, Nat.add_zero] at hx10_0); have hf10_0 := hfr10 0; (try simp only [show (k42).sz = 2 from rfl, Nat.mul_one, Nat.add_zero] at hf10_0); clear hcl10 hcc10 hfr10 hM10 hoki10 hH10) | ((with_reducible refine gate_store (t := 9) (p := 17) rfl ?_); refine store_event (t := 9) (p := 17) (v := ?vo_w11) (w1 := (w9.setCell ⟨go6, (x5_1 : Int).toNat * 2, none⟩ (.string t360))) ?hg ?ho ?hn ?hr ?_; (case ho => rfl); (case hg => rfl); (case hn => rfl); (case hr => first | (go_simp; done) | (go_simp; rfl)); intro w11 hw; have hg : w9.grownBy w11 (some go6) := (by rw [hw]; exact HP10.2); have hp_ : Kd.S k42 42 w11 w0.heap.size (fun k_ => P0_ k_) (.slice (some ⟨go6, 0, none⟩) x0_1.length co8) y361 := (by rw [hw, Ny361.out]; exact HP10.1); clear HP10; have _ := ra (hp_); have _ := ra ((by rw [hw]; exact below_set (HB.out) GB6.out : Below w0.heap.size w0 w11)); have _ := ra (Kept.of_grown (S := (fun k_ => P0_ k_)) hg (by repeat (first | (with_reducible first | exact HK.out | apply Kept.alloc | apply Kept.drewN | apply Kept.drew) | exact HK.out)) (fun k_ e_ => .inl ((Kd.S_R HO_0.out).1 k_ e_))); clear HO_0 HB HK; rename_i HO_0 HB HK; clear hg hw hp_; have p362 : 0 ≤ (x5_1 : Int) := od; have q362 : x5_1 < (y361.length : Int) := (by have h_ : (x5_1 : Int) < ((x0_1.length : Int) : Int) := od; first | (have e_ := (Kd.S_reads' HO_0.out).1; omega) | simpa only [Ny361.out, List.length_set] using h_); have ql362 : ((x5_1 : Int) < ((x0_1.length : Int) : Int)) = True := eq_true (od); obtain ⟨ad362, A362_1, c362_1, e362, hx362_0, hx362_1, hl362_1, hi362_1⟩ := at_T42 (Kd.S_reads' HO_0.out).2.2 x5_1 p362 q362; obtain rfl : (⟨go6, 0, none⟩ : Addr) = ad362 := (by injection e362); (first | simp only [add_plain] at hx362_0 | simp only [add_at] at hx362_0 | simp only [Addr.add, Nat.zero_add] at hx362_0 | skip); (first | simp only [add_plain] at hx362_1 | simp only [add_at] at hx362_1 | simp only [Addr.add, Nat.zero_add] at hx362_1 | skip); obtain ⟨okX, ceX, hclX, hMX, hccX, hfrX, hokX, hHX⟩ := Kd.S_elem HO_0.out z42 x5_1 p362 (by first | exact q362 | exact od | (have e_ := (Kd.S_reads' HO_0.out).1; omega)); obtain ⟨veX, rfl, geX⟩ := k42_openM hMX; have hvX : veX = .slice A362_1 ((rd_T42 y361 x5_1).f1).length c362_1 := Option.some.inj ((hccX 1 _ rfl).symm.trans hx362_1); subst hvX; have HGX := ra geX; have HHX := ra hHX; have HOX := ra hokX; clear geX hHX hokX hclX hccX hfrX hMX; replace p362 := eq_true p362; replace q362 := eq_true q362) | ((with_reducible refine gate_callee (f := 24) rfl ?_); refine gl (some 26) Try.func24 #[.slice A362_1 ((rd_T42 y361 x5_1).f1).length c362_1, .int .i64 (wrap64 (x1_1 + 1))] ?_; (with_reducible refine (laws_markProbeBoxS.calls k1 (fun k_ => some k_ = (.slice A362_1 ((rd_T42 y361 x5_1).f1).length c362_1 : Value).ownBlock) (.slice A362_1 ((rd_T42 y361 x5_1).f1).length c362_1) ((rd_T42 y361 x5_1).f1) (wrap64 (x1_1 + 1)) t363 t363r w0 _ ?side1 ?side2 A7.out).mono ?_); (case side1 => repeat (first | (with_reducible first | exact HB.out | apply below_alloc | apply pw_below_drewN | apply below_drew1) | exact HB.out)); (case side2 => exact Kd.R_tight rfl HGX.out); rintro e w12 ⟨rfl, hy0, hb, hkp⟩; refine ⟨_, rfl, ?_⟩; have _ := ra (Kd.H_back (Kd.H_kept HHX.out hkp (fun k_ hk_ hn_ hs_ => hn_ (HGX.out.1 k_ hs_.symm))) (k42_mkM _ _ _ (⟨(rd_T42 y361 x5_1).f0, t363r⟩ : S42) (Kd.R_reok rfl hy0 (fun k_ e_ => HGX.out.1 k_ e_))) (fun _ h_ => h_)); have _ := ra (Kept.then_ (S := (fun k_ => P0_ k_)) (HK.out) hkp (fun k_ hs_ => .inl (HOX.out k_ (HGX.out.1 k_ hs_.symm)).1)); have _ := ra hb; clear HO_0 HK HB HHX HGX HOX hy0 hkp hb; rename_i HO_0 HK HB))
     go_roundg k1
     case measure => have := HK1.out; omega
     case rel => exact ⟨(y361.set (x5_1 : Int).toNat (⟨(rd_T42 y361 x5_1).f0, t363r⟩ : S42)), (t363), (wrap64 (x5_1 + 1)), rs, rs, H', ⟨by have := HK1.out; omega⟩, ⟨by (with_reducible repeat (first | apply Kd.S_alloc | apply Kd.S_drewN | apply Kd.S_drew)); exact HO_0.out⟩, ⟨by repeat (first | (with_reducible first | exact HK.out | apply Kept.alloc | apply Kept.drewN | apply Kept.drew) | exact HK.out)⟩, ⟨bq⟩⟩
    ·rw [if_neg c5] at H
     exact absurd H (by simp)
   ·rw [if_neg c3] at H
    have c3b0 : decide (x5_1 < (x0_1.length : Int)) = false := decide_eq_false c3
    clear c3
    simp only [Option.some.injEq, Prod.mk.injEq] at H
    obtain ⟨rfl, rfl⟩ := H
    obtain ⟨Ao13, co13, eo13⟩ := Kd.S_slice HO_0.out
    subst eo13
    go_wp2
    go_ret
    exact ⟨re, by (with_reducible repeat (first | apply Kd.S_alloc | apply Kd.S_drewN | apply Kd.S_drew)); exact HO_0.out, bq, by repeat (first | (with_reducible first | exact HK.out | apply Kept.alloc | apply Kept.drewN | apply Kept.drew) | exact HK.out)⟩
set_option maxHeartbeats 8000000 in
set_option maxRecDepth 100000 in
theorem laws_markProbeSlotS.calls (k : Nat) (P0_ : Nat → Prop) (u9000_ : Value) (l0 : List (S52)) (a1 : Int) (r1 : Int) (r2 : List (S52)) (w0 w : World) (hB : Below w0.heap.size w0 w) (ho0 : Kd.R k52 52 w w0.heap.size P0_ u9000_ l0) (h : laws_markProbeSlotS.f k l0 a1 = some (r1, r2)) :
  Calls Try.prog 39 #[u9000_, .int .i64 a1] w fun e w' => e = .returned (.int .i64 r1) ∧ Kd.R k52 52 w' w0.heap.size (fun k_ => (P0_ k_ ∨ w.heap.size ≤ k_)) u9000_ r2 ∧ Below w0.heap.size w0 w' ∧ Kept w w' (fun k_ => P0_ k_) := by
 have HO0 := ra (show Kd.R k52 52 w w0.heap.size (fun k_ => (P0_ k_ ∨ w.heap.size ≤ k_)) u9000_ l0 from Kd.R_mono ho0 (fun k_ hk => (.inl hk)))
 have HK := ra (Kept.refl w (fun k_ => P0_ k_))
 have HW0 := Aside0.mk hB.size
 have HB := Aside0.mk hB
 clear hB
 have H : (laws_markProbeSlotS.l0 k l0 a1 0) = some (r1, r2) := h
 clear h
 have H' := Aside0.mk H
 clear H
 go_enter Try.func39, Try.ntmps39
 go_wp2
 go_loopg [1, 5] k (fun kq v1 v5 w' => ∃ (x0_1 : List (S52)) (x1_1 : Int) (x5_1 : Int), v1 = .int .i64 x1_1 ∧ v5 = .int .i64 x5_1 ∧ Aside0 (laws_markProbeSlotS.l0 kq x0_1 x1_1 x5_1 = some (r1, r2)) ∧ Aside0 (kq ≤ k) ∧ Aside0 (Kd.R k52 52 w' w0.heap.size (fun k_ => (P0_ k_ ∨ w.heap.size ≤ k_)) u9000_ x0_1) ∧ Aside0 (Kept w w' (fun k_ => P0_ k_)) ∧ Aside0 (Below w0.heap.size w0 w'))
 case atStart => exact ⟨(l0), (a1), (0), rs, rs, H', ⟨Nat.le_refl _⟩, ⟨rq HO0⟩, ⟨by repeat (first | (with_reducible first | exact HK.out | apply Kept.alloc | apply Kept.drewN | apply Kept.drew) | exact HK.out)⟩, ⟨bq⟩⟩
 case round =>
  clear H'
  obtain ⟨x0_1, x1_1, x5_1, rfl, rfl, HA, HK1, HO_0, HK, HB⟩ := hrel
  cases gk with
  | zero => exact absurd HA.out (by simp [laws_markProbeSlotS.l0])
  | succ k1 =>
   have H := HA.out
   clear HA
   simp only [laws_markProbeSlotS.l0] at H
   by_cases c3 : x5_1 < (x0_1.length : Int)
   ·rw [if_pos c3] at H
    have c3b0 : decide (x5_1 < (x0_1.length : Int)) = true := decide_eq_true c3
    clear c3
    by_cases c4 : 0 ≤ x5_1
    ·rw [if_pos c4] at H
     have c4b0 : decide (0 ≤ x5_1) = true := decide_eq_true c4
     clear c4
     obtain ⟨y364, hy_⟩ : ∃ y_ : List (S52), y_ = (x0_1.set (x5_1 : Int).toNat (⟨x1_1, (rd_T52 x0_1 x5_1).f1, (rd_T52 x0_1 x5_1).f2, (rd_T52 x0_1 x5_1).f3, (rd_T52 x0_1 x5_1).f4, (rd_T52 x0_1 x5_1).f5⟩ : S52)) := ⟨_, rfl⟩
     replace H : ((some (y364.set (x5_1 : Int).toNat (⟨(rd_T52 y364 x5_1).f0, wrap64 (x1_1 + 1), (rd_T52 y364 x5_1).f2, (rd_T52 y364 x5_1).f3, (rd_T52 y364 x5_1).f4, (rd_T52 y364 x5_1).f5⟩ : S52) : List (S52))).bind fun y365 => ((some (y365.set (x5_1 : Int).toNat (⟨(rd_T52 y365 x5_1).f0, (rd_T52 y365 x5_1).f1, wrap64 ((wrap64 (x1_1 + 1)) + 1), (rd_T52 y365 x5_1).f3, (rd_T52 y365 x5_1).f4, (rd_T52 y365 x5_1).f5⟩ : S52) : List (S52))).bind fun y366 => ((some (y366.set (x5_1 : Int).toNat (⟨(rd_T52 y366 x5_1).f0, (rd_T52 y366 x5_1).f1, (rd_T52 y366 x5_1).f2, wrap64 ((wrap64 ((wrap64 (x1_1 + 1)) + 1)) + 1), (rd_T52 y366 x5_1).f4, (rd_T52 y366 x5_1).f5⟩ : S52) : List (S52))).bind fun y367 => ((laws_markText.f k1 (wrap64 ((wrap64 ((wrap64 ((wrap64 (x1_1 + 1)) + 1)) + 1)) + 1))).bind fun t368 => ((some (y367.set (x5_1 : Int).toNat (⟨(rd_T52 y367 x5_1).f0, (rd_T52 y367 x5_1).f1, (rd_T52 y367 x5_1).f2, (rd_T52 y367 x5_1).f3, t368, (rd_T52 y367 x5_1).f5⟩ : S52) : List (S52))).bind fun y369 => (laws_markProbeSlotS.l0 k1 (y369.set (x5_1 : Int).toNat (⟨(rd_T52 y369 x5_1).f0, (rd_T52 y369 x5_1).f1, (rd_T52 y369 x5_1).f2, (rd_T52 y369 x5_1).f3, (rd_T52 y369 x5_1).f4, wrap64 ((wrap64 ((wrap64 ((wrap64 ((wrap64 (x1_1 + 1)) + 1)) + 1)) + 1)) + 1)⟩ : S52)) (wrap64 ((wrap64 ((wrap64 ((wrap64 ((wrap64 ((wrap64 (x1_1 + 1)) + 1)) + 1)) + 1)) + 1)) + 1)) (wrap64 (x5_1 + 1)))))))) = some (r1, r2) := yh
     have Ny364 := ra hy_
     clear hy_
     obtain ⟨y365, hy_⟩ : ∃ y_ : List (S52), y_ = (y364.set (x5_1 : Int).toNat (⟨(rd_T52 y364 x5_1).f0, wrap64 (x1_1 + 1), (rd_T52 y364 x5_1).f2, (rd_T52 y364 x5_1).f3, (rd_T52 y364 x5_1).f4, (rd_T52 y364 x5_1).f5⟩ : S52)) := ⟨_, rfl⟩
     replace H : ((some (y365.set (x5_1 : Int).toNat (⟨(rd_T52 y365 x5_1).f0, (rd_T52 y365 x5_1).f1, wrap64 ((wrap64 (x1_1 + 1)) + 1), (rd_T52 y365 x5_1).f3, (rd_T52 y365 x5_1).f4, (rd_T52 y365 x5_1).f5⟩ : S52) : List (S52))).bind fun y366 => ((some (y366.set (x5_1 : Int).toNat (⟨(rd_T52 y366 x5_1).f0, (rd_T52 y366 x5_1).f1, (rd_T52 y366 x5_1).f2, wrap64 ((wrap64 ((wrap64 (x1_1 + 1)) + 1)) + 1), (rd_T52 y366 x5_1).f4, (rd_T52 y366 x5_1).f5⟩ : S52) : List (S52))).bind fun y367 => ((laws_markText.f k1 (wrap64 ((wrap64 ((wrap64 ((wrap64 (x1_1 + 1)) + 1)) + 1)) + 1))).bind fun t368 => ((some (y367.set (x5_1 : Int).toNat (⟨(rd_T52 y367 x5_1).f0, (rd_T52 y367 x5_1).f1, (rd_T52 y367 x5_1).f2, (rd_T52 y367 x5_1).f3, t368, (rd_T52 y367 x5_1).f5⟩ : S52) : List (S52))).bind fun y369 => (laws_markProbeSlotS.l0 k1 (y369.set (x5_1 : Int).toNat (⟨(rd_T52 y369 x5_1).f0, (rd_T52 y369 x5_1).f1, (rd_T52 y369 x5_1).f2, (rd_T52 y369 x5_1).f3, (rd_T52 y369 x5_1).f4, wrap64 ((wrap64 ((wrap64 ((wrap64 ((wrap64 (x1_1 + 1)) + 1)) + 1)) + 1)) + 1)⟩ : S52)) (wrap64 ((wrap64 ((wrap64 ((wrap64 ((wrap64 ((wrap64 (x1_1 + 1)) + 1)) + 1)) + 1)) + 1)) + 1)) (wrap64 (x5_1 + 1))))))) = some (r1, r2) := yh
     have Ny365 := ra hy_
     clear hy_
     obtain ⟨y366, hy_⟩ : ∃ y_ : List (S52), y_ = (y365.set (x5_1 : Int).toNat (⟨(rd_T52 y365 x5_1).f0, (rd_T52 y365 x5_1).f1, wrap64 ((wrap64 (x1_1 + 1)) + 1), (rd_T52 y365 x5_1).f3, (rd_T52 y365 x5_1).f4, (rd_T52 y365 x5_1).f5⟩ : S52)) := ⟨_, rfl⟩
     replace H : ((some (y366.set (x5_1 : Int).toNat (⟨(rd_T52 y366 x5_1).f0, (rd_T52 y366 x5_1).f1, (rd_T52 y366 x5_1).f2, wrap64 ((wrap64 ((wrap64 (x1_1 + 1)) + 1)) + 1), (rd_T52 y366 x5_1).f4, (rd_T52 y366 x5_1).f5⟩ : S52) : List (S52))).bind fun y367 => ((laws_markText.f k1 (wrap64 ((wrap64 ((wrap64 ((wrap64 (x1_1 + 1)) + 1)) + 1)) + 1))).bind fun t368 => ((some (y367.set (x5_1 : Int).toNat (⟨(rd_T52 y367 x5_1).f0, (rd_T52 y367 x5_1).f1, (rd_T52 y367 x5_1).f2, (rd_T52 y367 x5_1).f3, t368, (rd_T52 y367 x5_1).f5⟩ : S52) : List (S52))).bind fun y369 => (laws_markProbeSlotS.l0 k1 (y369.set (x5_1 : Int).toNat (⟨(rd_T52 y369 x5_1).f0, (rd_T52 y369 x5_1).f1, (rd_T52 y369 x5_1).f2, (rd_T52 y369 x5_1).f3, (rd_T52 y369 x5_1).f4, wrap64 ((wrap64 ((wrap64 ((wrap64 ((wrap64 (x1_1 + 1)) + 1)) + 1)) + 1)) + 1)⟩ : S52)) (wrap64 ((wrap64 ((wrap64 ((wrap64 ((wrap64 ((wrap64 (x1_1 + 1)) + 1)) + 1)) + 1)) + 1)) + 1)) (wrap64 (x5_1 + 1)))))) = some (r1, r2) := yh
     have Ny366 := ra hy_
     clear hy_
     obtain ⟨y367, hy_⟩ : ∃ y_ : List (S52), y_ = (y366.set (x5_1 : Int).toNat (⟨(rd_T52 y366 x5_1).f0, (rd_T52 y366 x5_1).f1, (rd_T52 y366 x5_1).f2, wrap64 ((wrap64 ((wrap64 (x1_1 + 1)) + 1)) + 1), (rd_T52 y366 x5_1).f4, (rd_T52 y366 x5_1).f5⟩ : S52)) := ⟨_, rfl⟩
     replace H : ((laws_markText.f k1 (wrap64 ((wrap64 ((wrap64 ((wrap64 (x1_1 + 1)) + 1)) + 1)) + 1))).bind fun t368 => ((some (y367.set (x5_1 : Int).toNat (⟨(rd_T52 y367 x5_1).f0, (rd_T52 y367 x5_1).f1, (rd_T52 y367 x5_1).f2, (rd_T52 y367 x5_1).f3, t368, (rd_T52 y367 x5_1).f5⟩ : S52) : List (S52))).bind fun y369 => (laws_markProbeSlotS.l0 k1 (y369.set (x5_1 : Int).toNat (⟨(rd_T52 y369 x5_1).f0, (rd_T52 y369 x5_1).f1, (rd_T52 y369 x5_1).f2, (rd_T52 y369 x5_1).f3, (rd_T52 y369 x5_1).f4, wrap64 ((wrap64 ((wrap64 ((wrap64 ((wrap64 (x1_1 + 1)) + 1)) + 1)) + 1)) + 1)⟩ : S52)) (wrap64 ((wrap64 ((wrap64 ((wrap64 ((wrap64 ((wrap64 (x1_1 + 1)) + 1)) + 1)) + 1)) + 1)) + 1)) (wrap64 (x5_1 + 1))))) = some (r1, r2) := yh
     have Ny367 := ra hy_
     clear hy_
     obtain ⟨t368, A9, H⟩ := bo H
     obtain ⟨y369, hy_⟩ : ∃ y_ : List (S52), y_ = (y367.set (x5_1 : Int).toNat (⟨(rd_T52 y367 x5_1).f0, (rd_T52 y367 x5_1).f1, (rd_T52 y367 x5_1).f2, (rd_T52 y367 x5_1).f3, t368, (rd_T52 y367 x5_1).f5⟩ : S52)) := ⟨_, rfl⟩
     replace H : (laws_markProbeSlotS.l0 k1 (y369.set (x5_1 : Int).toNat (⟨(rd_T52 y369 x5_1).f0, (rd_T52 y369 x5_1).f1, (rd_T52 y369 x5_1).f2, (rd_T52 y369 x5_1).f3, (rd_T52 y369 x5_1).f4, wrap64 ((wrap64 ((wrap64 ((wrap64 ((wrap64 (x1_1 + 1)) + 1)) + 1)) + 1)) + 1)⟩ : S52)) (wrap64 ((wrap64 ((wrap64 ((wrap64 ((wrap64 ((wrap64 (x1_1 + 1)) + 1)) + 1)) + 1)) + 1)) + 1)) (wrap64 (x5_1 + 1))) = some (r1, r2) := yh
     have Ny369 := ra hy_
     clear hy_
     obtain ⟨y370, hy_⟩ : ∃ y_ : List (S52), y_ = (y369.set (x5_1 : Int).toNat (⟨(rd_T52 y369 x5_1).f0, (rd_T52 y369 x5_1).f1, (rd_T52 y369 x5_1).f2, (rd_T52 y369 x5_1).f3, (rd_T52 y369 x5_1).f4, wrap64 ((wrap64 ((wrap64 ((wrap64 ((wrap64 (x1_1 + 1)) + 1)) + 1)) + 1)) + 1)⟩ : S52)) := ⟨_, rfl⟩
     replace H : (laws_markProbeSlotS.l0 k1 y370 (wrap64 ((wrap64 ((wrap64 ((wrap64 ((wrap64 ((wrap64 (x1_1 + 1)) + 1)) + 1)) + 1)) + 1)) + 1)) (wrap64 (x5_1 + 1))) = some (r1, r2) := yh
     have Ny370 := ra hy_
     clear hy_
     have H' := Aside0.mk H
     clear H
     obtain ⟨Ao12, co12, eo12⟩ := Kd.R_slice HO_0.out
     subst eo12
     have p5 : 0 ≤ (x5_1 : Int) := od
     have q5 : (x5_1 : Int) < ((x0_1.length : Int) : Int) := od
     obtain ⟨go5, co5, eo5, gb5, gl5, cl5, HG5⟩ := Kd.R_form HO_0.out (by omega)
     (first | cases eo5 | (injection eo5 with ea_ en_ ec_; (first | subst ea_ | (injection ea_ with ea_; subst ea_)); subst ec_; clear en_))
     have GB5 := Aside0.mk gb5
     have GG5 := Aside0.mk HG5
     clear gb5 gl5 HG5
     have HMgo5 := ra (show (P0_ go5 ∨ w.heap.size ≤ go5) from (HO_0.out.1 _ rfl))
     obtain ⟨ce5, hcl5, hM5, hcc5, hfr5⟩ := Kd.R_elem HO_0.out z52 (x5_1 : Int) p5 q5
     obtain rfl := k52_openM hM5
     have hx5_0 : wr.cell? ⟨go5, (x5_1 : Int).toNat * 6, none⟩ = some (.int .i64 ((rd_T52 x0_1 x5_1).f0)) := hcc5 0 _ rfl
     have hx5_1 : wr.cell? ⟨go5, (x5_1 : Int).toNat * 6 + 1, none⟩ = some (.int .i64 ((rd_T52 x0_1 x5_1).f1)) := hcc5 1 _ rfl
     have hx5_2 : wr.cell? ⟨go5, (x5_1 : Int).toNat * 6 + 2, none⟩ = some (.int .i64 ((rd_T52 x0_1 x5_1).f2)) := hcc5 2 _ rfl
     have hx5_3 : wr.cell? ⟨go5, (x5_1 : Int).toNat * 6 + 3, none⟩ = some (.int .i64 ((rd_T52 x0_1 x5_1).f3)) := hcc5 3 _ rfl
     have hx5_4 : wr.cell? ⟨go5, (x5_1 : Int).toNat * 6 + 4, none⟩ = some (.string ((rd_T52 x0_1 x5_1).f4)) := hcc5 4 _ rfl
     have hx5_5 : wr.cell? ⟨go5, (x5_1 : Int).toNat * 6 + 5, none⟩ = some (.int .i64 ((rd_T52 x0_1 x5_1).f5)) := hcc5 5 _ rfl
     have hf5_0 : wr.frozen? ⟨go5, (x5_1 : Int).toNat * 6, none⟩ = false := hfr5 0
     have hf5_1 : wr.frozen? ⟨go5, (x5_1 : Int).toNat * 6 + 1, none⟩ = false := hfr5 1
     have hf5_2 : wr.frozen? ⟨go5, (x5_1 : Int).toNat * 6 + 2, none⟩ = false := hfr5 2
     have hf5_3 : wr.frozen? ⟨go5, (x5_1 : Int).toNat * 6 + 3, none⟩ = false := hfr5 3
     have hf5_4 : wr.frozen? ⟨go5, (x5_1 : Int).toNat * 6 + 4, none⟩ = false := hfr5 4
     have hf5_5 : wr.frozen? ⟨go5, (x5_1 : Int).toNat * 6 + 5, none⟩ = false := hfr5 5
     clear hcl5 hcc5 hfr5 hM5
     replace p5 := eq_true p5
     replace q5 := eq_true q5
     have HX13 := ra (show Kd.R k52 52 wr w0.heap.size (fun k_ => (P0_ k_ ∨ w.heap.size ≤ k_)) (.slice (some ⟨go5, 0, none⟩) x0_1.length co12) x0_1 from (rq HO_0))
     obtain ⟨ce13, hcl13, hM13, hcc13, hfr13⟩ := Kd.R_elem HX13.out z52 (x5_1 : Int) (od) (by have h_ : (x5_1 : Int) < ((x0_1.length : Int) : Int) := od; first | exact h_ | (have e_ := (Kd.R_reads' HO_0.out).1; omega) | simpa using h_)
     obtain rfl := k52_openM hM13
     have HP13 := Kd.R_seg HX13.out (x5_1 : Int) (od) (by have h_ : (x5_1 : Int) < ((x0_1.length : Int) : Int) := od; first | exact h_ | (have e_ := (Kd.R_reads' HO_0.out).1; omega) | simpa using h_) (seg := [.int .i64 x1_1]) (j := 0) hcl13 hcc13 (show 1 ≤ 6 from by decide) (x' := (⟨x1_1, (rd_T52 x0_1 x5_1).f1, (rd_T52 x0_1 x5_1).f2, (rd_T52 x0_1 x5_1).f3, (rd_T52 x0_1 x5_1).f4, (rd_T52 x0_1 x5_1).f5⟩ : S52)) (k52_mkM _ _ _ (⟨x1_1, (rd_T52 x0_1 x5_1).f1, (rd_T52 x0_1 x5_1).f2, (rd_T52 x0_1 x5_1).f3, (rd_T52 x0_1 x5_1).f4, (rd_T52 x0_1 x5_1).f5⟩ : S52) ) (fun _ hk => hk)
     have hx13_0 := hcc13 0 _ rfl
     (try simp only [show (k52).sz = 6 from rfl, Nat.mul_one, Nat.add_zero] at hx13_0)
     have hf13_0 := hfr13 0
     (try simp only [show (k52).sz = 6 from rfl, Nat.mul_one, Nat.add_zero] at hf13_0)
     clear hcl13 hcc13 hfr13 hM13
     go_wp2_with (first | ((with_reducible refine gate_store (t := 3) (p := 16) rfl ?_); refine store_event (t := 3) (p := 16) (v := ?vo_w14) (w1 := (wr.setCell ⟨go5, (x5_1 : Int).toNat * 6, none⟩ (.int .i64 x1_1))) ?hg ?ho ?hn ?hr ?_; (case ho => rfl); (case hg => rfl); (case hn => rfl); (case hr => first | (go_simp; done) | (go_simp; rfl)); intro w14 hw; have hg : wr.grownBy w14 (some go5) := (by rw [hw]; exact HP13.2); have hp_ : Kd.R k52 52 w14 w0.heap.size (fun k_ => (P0_ k_ ∨ w.heap.size ≤ k_)) (.slice (some ⟨go5, 0, none⟩) x0_1.length co12) y364 := (by rw [hw, Ny364.out]; exact HP13.1); clear HP13; have _ := ra (hp_); have _ := ra ((by rw [hw]; exact below_set (HB.out) GB5.out : Below w0.heap.size w0 w14)); have _ := ra (Kept.of_grown (S := (fun k_ => P0_ k_)) hg (by repeat (first | (with_reducible first | exact HK.out | apply Kept.alloc | apply Kept.drewN | apply Kept.drew) | exact HK.out)) (fun k_ e_ => (HO_0.out.1 k_ e_))); clear HO_0 HB HK; rename_i HO_0 HB HK; clear hg hw hp_; have p6 : 0 ≤ (x5_1 : Int) := od; have q6 : (x5_1 : Int) < ((x0_1.length : Int) : Int) := od; obtain ⟨ce6, hcl6, hM6, hcc6, hfr6⟩ := Kd.R_elem HO_0.out z52 (x5_1 : Int) p6 q6; obtain rfl := k52_openM hM6; have hx6_0 : w14.cell? ⟨go5, (x5_1 : Int).toNat * 6, none⟩ = some (.int .i64 ((rd_T52 y364 x5_1).f0)) := hcc6 0 _ rfl; have hx6_1 : w14.cell? ⟨go5, (x5_1 : Int).toNat * 6 + 1, none⟩ = some (.int .i64 ((rd_T52 y364 x5_1).f1)) := hcc6 1 _ rfl; have hx6_2 : w14.cell? ⟨go5, (x5_1 : Int).toNat * 6 + 2, none⟩ = some (.int .i64 ((rd_T52 y364 x5_1).f2)) := hcc6 2 _ rfl; have hx6_3 : w14.cell? ⟨go5, (x5_1 : Int).toNat * 6 + 3, none⟩ = some (.int .i64 ((rd_T52 y364 x5_1).f3)) := hcc6 3 _ rfl; have hx6_4 : w14.cell? ⟨go5, (x5_1 : Int).toNat * 6 + 4, none⟩ = some (.string ((rd_T52 y364 x5_1).f4)) := hcc6 4 _ rfl; have hx6_5 : w14.cell? ⟨go5, (x5_1 : Int).toNat * 6 + 5, none⟩ = some (.int .i64 ((rd_T52 y364 x5_1).f5)) := hcc6 5 _ rfl; have hf6_0 : w14.frozen? ⟨go5, (x5_1 : Int).toNat * 6, none⟩ = false := hfr6 0; have hf6_1 : w14.frozen? ⟨go5, (x5_1 : Int).toNat * 6 + 1, none⟩ = false := hfr6 1; have hf6_2 : w14.frozen? ⟨go5, (x5_1 : Int).toNat * 6 + 2, none⟩ = false := hfr6 2; have hf6_3 : w14.frozen? ⟨go5, (x5_1 : Int).toNat * 6 + 3, none⟩ = false := hfr6 3; have hf6_4 : w14.frozen? ⟨go5, (x5_1 : Int).toNat * 6 + 4, none⟩ = false := hfr6 4; have hf6_5 : w14.frozen? ⟨go5, (x5_1 : Int).toNat * 6 + 5, none⟩ = false := hfr6 5; clear hcl6 hcc6 hfr6 hM6; replace p6 := eq_true p6; replace q6 := eq_true q6; have HX15 := ra (show Kd.R k52 52 w14 w0.heap.size (fun k_ => (P0_ k_ ∨ w.heap.size ≤ k_)) (.slice (some ⟨go5, 0, none⟩) x0_1.length co12) y364 from (rq HO_0)); obtain ⟨ce15, hcl15, hM15, hcc15, hfr15⟩ := Kd.R_elem HX15.out z52 (x5_1 : Int) (od) (by have h_ : (x5_1 : Int) < ((x0_1.length : Int) : Int) := od; first | exact h_ | (have e_ := (Kd.R_reads' HO_0.out).1; omega) | simpa using h_); obtain rfl := k52_openM hM15; have HP15 := Kd.R_seg HX15.out (x5_1 : Int) (od) (by have h_ : (x5_1 : Int) < ((x0_1.length : Int) : Int) := od; first | exact h_ | (have e_ := (Kd.R_reads' HO_0.out).1; omega) | simpa using h_) (seg := [.int .i64 (wrap64 (x1_1 + 1))]) (j := 1) hcl15 hcc15 (show 2 ≤ 6 from by decide) (x' := (⟨(rd_T52 y364 x5_1).f0, wrap64 (x1_1 + 1), (rd_T52 y364 x5_1).f2, (rd_T52 y364 x5_1).f3, (rd_T52 y364 x5_1).f4, (rd_T52 y364 x5_1).f5⟩ : S52)) (k52_mkM _ _ _ (⟨(rd_T52 y364 x5_1).f0, wrap64 (x1_1 + 1), (rd_T52 y364 x5_1).f2, (rd_T52 y364 x5_1).f3, (rd_T52 y364 x5_1).f4, (rd_T52 y364 x5_1).f5⟩ : S52) ) (fun _ hk => hk); have hx15_1 := hcc15 1 _ rfl; (try simp only [show (k52).sz = 6 from rfl, Nat.mul_one, Nat.add_zero] at hx15_1); have hf15_1 := hfr15 1; (try simp only [show (k52).sz = 6 from rfl, Nat.mul_one, Nat.add_zero] at hf15_1); clear hcl15 hcc15 hfr15 hM15) | ((with_reducible refine gate_store (t := 3) (p := 23) rfl ?_); refine store_event (t := 3) (p := 23) (v := ?vo_w16) (w1 := (w14.setCell ⟨go5, (x5_1 : Int).toNat * 6 + 1, none⟩ (.int .i64 (wrap64 (x1_1 + 1))))) ?hg ?ho ?hn ?hr ?_; (case ho => rfl); (case hg => rfl); (case hn => rfl); (case hr => first | (go_simp; done) | (go_simp; rfl)); intro w16 hw; have hg : w14.grownBy w16 (some go5) := (by rw [hw]; exact HP15.2); have hp_ : Kd.R k52 52 w16 w0.heap.size (fun k_ => (P0_ k_ ∨ w.heap.size ≤ k_)) (.slice (some ⟨go5, 0, none⟩) x0_1.length co12) y365 := (by rw [hw, Ny365.out]; exact HP15.1); clear HP15; have _ := ra (hp_); have _ := ra ((by rw [hw]; exact below_set (HB.out) GB5.out : Below w0.heap.size w0 w16)); have _ := ra (Kept.of_grown (S := (fun k_ => P0_ k_)) hg (by repeat (first | (with_reducible first | exact HK.out | apply Kept.alloc | apply Kept.drewN | apply Kept.drew) | exact HK.out)) (fun k_ e_ => (HO_0.out.1 k_ e_))); clear HO_0 HB HK; rename_i HO_0 HB HK; clear hg hw hp_; have p7 : 0 ≤ (x5_1 : Int) := od; have q7 : (x5_1 : Int) < ((x0_1.length : Int) : Int) := od; obtain ⟨ce7, hcl7, hM7, hcc7, hfr7⟩ := Kd.R_elem HO_0.out z52 (x5_1 : Int) p7 q7; obtain rfl := k52_openM hM7; have hx7_0 : w16.cell? ⟨go5, (x5_1 : Int).toNat * 6, none⟩ = some (.int .i64 ((rd_T52 y365 x5_1).f0)) := hcc7 0 _ rfl; have hx7_1 : w16.cell? ⟨go5, (x5_1 : Int).toNat * 6 + 1, none⟩ = some (.int .i64 ((rd_T52 y365 x5_1).f1)) := hcc7 1 _ rfl; have hx7_2 : w16.cell? ⟨go5, (x5_1 : Int).toNat * 6 + 2, none⟩ = some (.int .i64 ((rd_T52 y365 x5_1).f2)) := hcc7 2 _ rfl; have hx7_3 : w16.cell? ⟨go5, (x5_1 : Int).toNat * 6 + 3, none⟩ = some (.int .i64 ((rd_T52 y365 x5_1).f3)) := hcc7 3 _ rfl; have hx7_4 : w16.cell? ⟨go5, (x5_1 : Int).toNat * 6 + 4, none⟩ = some (.string ((rd_T52 y365 x5_1).f4)) := hcc7 4 _ rfl; have hx7_5 : w16.cell? ⟨go5, (x5_1 : Int).toNat * 6 + 5, none⟩ = some (.int .i64 ((rd_T52 y365 x5_1).f5)) := hcc7 5 _ rfl; have hf7_0 : w16.frozen? ⟨go5, (x5_1 : Int).toNat * 6, none⟩ = false := hfr7 0; have hf7_1 : w16.frozen? ⟨go5, (x5_1 : Int).toNat * 6 + 1, none⟩ = false := hfr7 1; have hf7_2 : w16.frozen? ⟨go5, (x5_1 : Int).toNat * 6 + 2, none⟩ = false := hfr7 2; have hf7_3 : w16.frozen? ⟨go5, (x5_1 : Int).toNat * 6 + 3, none⟩ = false := hfr7 3; have hf7_4 : w16.frozen? ⟨go5, (x5_1 : Int).toNat * 6 + 4, none⟩ = false := hfr7 4; have hf7_5 : w16.frozen? ⟨go5, (x5_1 : Int).toNat * 6 + 5, none⟩ = false := hfr7 5; clear hcl7 hcc7 hfr7 hM7; replace p7 := eq_true p7; replace q7 := eq_true q7; have HX17 := ra (show Kd.R k52 52 w16 w0.heap.size (fun k_ => (P0_ k_ ∨ w.heap.size ≤ k_)) (.slice (some ⟨go5, 0, none⟩) x0_1.length co12) y365 from (rq HO_0)); obtain ⟨ce17, hcl17, hM17, hcc17, hfr17⟩ := Kd.R_elem HX17.out z52 (x5_1 : Int) (od) (by have h_ : (x5_1 : Int) < ((x0_1.length : Int) : Int) := od; first | exact h_ | (have e_ := (Kd.R_reads' HO_0.out).1; omega) | simpa using h_); obtain rfl := k52_openM hM17; have HP17 := Kd.R_seg HX17.out (x5_1 : Int) (od) (by have h_ : (x5_1 : Int) < ((x0_1.length : Int) : Int) := od; first | exact h_ | (have e_ := (Kd.R_reads' HO_0.out).1; omega) | simpa using h_) (seg := [.int .i64 (wrap64 ((wrap64 (x1_1 + 1)) + 1))]) (j := 2) hcl17 hcc17 (show 3 ≤ 6 from by decide) (x' := (⟨(rd_T52 y365 x5_1).f0, (rd_T52 y365 x5_1).f1, wrap64 ((wrap64 (x1_1 + 1)) + 1), (rd_T52 y365 x5_1).f3, (rd_T52 y365 x5_1).f4, (rd_T52 y365 x5_1).f5⟩ : S52)) (k52_mkM _ _ _ (⟨(rd_T52 y365 x5_1).f0, (rd_T52 y365 x5_1).f1, wrap64 ((wrap64 (x1_1 + 1)) + 1), (rd_T52 y365 x5_1).f3, (rd_T52 y365 x5_1).f4, (rd_T52 y365 x5_1).f5⟩ : S52) ) (fun _ hk => hk); have hx17_2 := hcc17 2 _ rfl; (try simp only [show (k52).sz = 6 from rfl, Nat.mul_one, Nat.add_zero] at hx17_2); have hf17_2 := hfr17 2; (try simp only [show (k52).sz = 6 from rfl, Nat.mul_one, Nat.add_zero] at hf17_2); clear hcl17 hcc17 hfr17 hM17) | ((with_reducible refine gate_store (t := 3) (p := 30) rfl ?_); refine store_event (t := 3) (p := 30) (v := ?vo_w18) (w1 := (w16.setCell ⟨go5, (x5_1 : Int).toNat * 6 + 2, none⟩ (.int .i64 (wrap64 ((wrap64 (x1_1 + 1)) + 1))))) ?hg ?ho ?hn ?hr ?_; (case ho => rfl); (case hg => rfl); (case hn => rfl); (case hr => first | (go_simp; done) | (go_simp; rfl)); intro w18 hw; have hg : w16.grownBy w18 (some go5) := (by rw [hw]; exact HP17.2); have hp_ : Kd.R k52 52 w18 w0.heap.size (fun k_ => (P0_ k_ ∨ w.heap.size ≤ k_)) (.slice (some ⟨go5, 0, none⟩) x0_1.length co12) y366 := (by rw [hw, Ny366.out]; exact HP17.1); clear HP17; have _ := ra (hp_); have _ := ra ((by rw [hw]; exact below_set (HB.out) GB5.out : Below w0.heap.size w0 w18)); have _ := ra (Kept.of_grown (S := (fun k_ => P0_ k_)) hg (by repeat (first | (with_reducible first | exact HK.out | apply Kept.alloc | apply Kept.drewN | apply Kept.drew) | exact HK.out)) (fun k_ e_ => (HO_0.out.1 k_ e_))); clear HO_0 HB HK; rename_i HO_0 HB HK; clear hg hw hp_; have p8 : 0 ≤ (x5_1 : Int) := od; have q8 : (x5_1 : Int) < ((x0_1.length : Int) : Int) := od; obtain ⟨ce8, hcl8, hM8, hcc8, hfr8⟩ := Kd.R_elem HO_0.out z52 (x5_1 : Int) p8 q8; obtain rfl := k52_openM hM8; have hx8_0 : w18.cell? ⟨go5, (x5_1 : Int).toNat * 6, none⟩ = some (.int .i64 ((rd_T52 y366 x5_1).f0)) := hcc8 0 _ rfl; have hx8_1 : w18.cell? ⟨go5, (x5_1 : Int).toNat * 6 + 1, none⟩ = some (.int .i64 ((rd_T52 y366 x5_1).f1)) := hcc8 1 _ rfl; have hx8_2 : w18.cell? ⟨go5, (x5_1 : Int).toNat * 6 + 2, none⟩ = some (.int .i64 ((rd_T52 y366 x5_1).f2)) := hcc8 2 _ rfl; have hx8_3 : w18.cell? ⟨go5, (x5_1 : Int).toNat * 6 + 3, none⟩ = some (.int .i64 ((rd_T52 y366 x5_1).f3)) := hcc8 3 _ rfl; have hx8_4 : w18.cell? ⟨go5, (x5_1 : Int).toNat * 6 + 4, none⟩ = some (.string ((rd_T52 y366 x5_1).f4)) := hcc8 4 _ rfl; have hx8_5 : w18.cell? ⟨go5, (x5_1 : Int).toNat * 6 + 5, none⟩ = some (.int .i64 ((rd_T52 y366 x5_1).f5)) := hcc8 5 _ rfl; have hf8_0 : w18.frozen? ⟨go5, (x5_1 : Int).toNat * 6, none⟩ = false := hfr8 0; have hf8_1 : w18.frozen? ⟨go5, (x5_1 : Int).toNat * 6 + 1, none⟩ = false := hfr8 1; have hf8_2 : w18.frozen? ⟨go5, (x5_1 : Int).toNat * 6 + 2, none⟩ = false := hfr8 2; have hf8_3 : w18.frozen? ⟨go5, (x5_1 : Int).toNat * 6 + 3, none⟩ = false := hfr8 3; have hf8_4 : w18.frozen? ⟨go5, (x5_1 : Int).toNat * 6 + 4, none⟩ = false := hfr8 4; have hf8_5 : w18.frozen? ⟨go5, (x5_1 : Int).toNat * 6 + 5, none⟩ = false := hfr8 5; clear hcl8 hcc8 hfr8 hM8; replace p8 := eq_true p8; replace q8 := eq_true q8; have HX19 := ra (show Kd.R k52 52 w18 w0.heap.size (fun k_ => (P0_ k_ ∨ w.heap.size ≤ k_)) (.slice (some ⟨go5, 0, none⟩) x0_1.length co12) y366 from (rq HO_0)); obtain ⟨ce19, hcl19, hM19, hcc19, hfr19⟩ := Kd.R_elem HX19.out z52 (x5_1 : Int) (od) (by have h_ : (x5_1 : Int) < ((x0_1.length : Int) : Int) := od; first | exact h_ | (have e_ := (Kd.R_reads' HO_0.out).1; omega) | simpa using h_); obtain rfl := k52_openM hM19; have HP19 := Kd.R_seg HX19.out (x5_1 : Int) (od) (by have h_ : (x5_1 : Int) < ((x0_1.length : Int) : Int) := od; first | exact h_ | (have e_ := (Kd.R_reads' HO_0.out).1; omega) | simpa using h_) (seg := [.int .i64 (wrap64 ((wrap64 ((wrap64 (x1_1 + 1)) + 1)) + 1))]) (j := 3) hcl19 hcc19 (show 4 ≤ 6 from by decide) (x' := (⟨(rd_T52 y366 x5_1).f0, (rd_T52 y366 x5_1).f1, (rd_T52 y366 x5_1).f2, wrap64 ((wrap64 ((wrap64 (x1_1 + 1)) + 1)) + 1), (rd_T52 y366 x5_1).f4, (rd_T52 y366 x5_1).f5⟩ : S52)) (k52_mkM _ _ _ (⟨(rd_T52 y366 x5_1).f0, (rd_T52 y366 x5_1).f1, (rd_T52 y366 x5_1).f2, wrap64 ((wrap64 ((wrap64 (x1_1 + 1)) + 1)) + 1), (rd_T52 y366 x5_1).f4, (rd_T52 y366 x5_1).f5⟩ : S52) ) (fun _ hk => hk); have hx19_3 := hcc19 3 _ rfl; (try simp only [show (k52).sz = 6 from rfl, Nat.mul_one, Nat.add_zero] at hx19_3); have hf19_3 := hfr19 3; (try simp only [show (k52).sz = 6 from rfl, Nat.mul_one, Nat.add_zero] at hf19_3); clear hcl19 hcc19 hfr19 hM19) | ((with_reducible refine gate_store (t := 3) (p := 37) rfl ?_); refine store_event (t := 3) (p := 37) (v := ?vo_w20) (w1 := (w18.setCell ⟨go5, (x5_1 : Int).toNat * 6 + 3, none⟩ (.int .i64 (wrap64 ((wrap64 ((wrap64 (x1_1 + 1)) + 1)) + 1))))) ?hg ?ho ?hn ?hr ?_; (case ho => rfl); (case hg => rfl); (case hn => rfl); (case hr => first | (go_simp; done) | (go_simp; rfl)); intro w20 hw; have hg : w18.grownBy w20 (some go5) := (by rw [hw]; exact HP19.2); have hp_ : Kd.R k52 52 w20 w0.heap.size (fun k_ => (P0_ k_ ∨ w.heap.size ≤ k_)) (.slice (some ⟨go5, 0, none⟩) x0_1.length co12) y367 := (by rw [hw, Ny367.out]; exact HP19.1); clear HP19; have _ := ra (hp_); have _ := ra ((by rw [hw]; exact below_set (HB.out) GB5.out : Below w0.heap.size w0 w20)); have _ := ra (Kept.of_grown (S := (fun k_ => P0_ k_)) hg (by repeat (first | (with_reducible first | exact HK.out | apply Kept.alloc | apply Kept.drewN | apply Kept.drew) | exact HK.out)) (fun k_ e_ => (HO_0.out.1 k_ e_))); clear HO_0 HB HK; rename_i HO_0 HB HK; clear hg hw hp_) | ((with_reducible refine gate_callee (f := 23) rfl ?_); refine gl (some 43) Try.func23 #[.int .i64 (wrap64 ((wrap64 ((wrap64 ((wrap64 (x1_1 + 1)) + 1)) + 1)) + 1))] ?_; (with_reducible refine (laws_markText.calls k1 (wrap64 ((wrap64 ((wrap64 ((wrap64 (x1_1 + 1)) + 1)) + 1)) + 1)) t368 _ A9.out).mono ?_); rintro e w21 ⟨rfl, hb⟩; refine ⟨_, rfl, ?_⟩; have _ := ra (Kd.R_below (rq HO_0) hb); have _ := ra (Kept.below (S := (fun k_ => P0_ k_)) (by repeat (first | (with_reducible first | exact HK.out | apply Kept.alloc | apply Kept.drewN | apply Kept.drew) | exact HK.out)) hb); have _ := bs hb; clear HO_0 HK HB; rename_i HO_0 HK HB; (try clear hb); (try clear hb2); (try clear hk); (try clear hi); have p10 : 0 ≤ (x5_1 : Int) := od; have q10 : (x5_1 : Int) < ((x0_1.length : Int) : Int) := od; obtain ⟨ce10, hcl10, hM10, hcc10, hfr10⟩ := Kd.R_elem HO_0.out z52 (x5_1 : Int) p10 q10; obtain rfl := k52_openM hM10; have hx10_0 : w21.cell? ⟨go5, (x5_1 : Int).toNat * 6, none⟩ = some (.int .i64 ((rd_T52 y367 x5_1).f0)) := hcc10 0 _ rfl; have hx10_1 : w21.cell? ⟨go5, (x5_1 : Int).toNat * 6 + 1, none⟩ = some (.int .i64 ((rd_T52 y367 x5_1).f1)) := hcc10 1 _ rfl; have hx10_2 : w21.cell? ⟨go5, (x5_1 : Int).toNat * 6 + 2, none⟩ = some (.int .i64 ((rd_T52 y367 x5_1).f2)) := hcc10 2 _ rfl; have hx10_3 : w21.cell? ⟨go5, (x5_1 : Int).toNat * 6 + 3, none⟩ = some (.int .i64 ((rd_T52 y367 x5_1).f3)) := hcc10 3 _ rfl; have hx10_4 : w21.cell? ⟨go5, (x5_1 : Int).toNat * 6 + 4, none⟩ = some (.string ((rd_T52 y367 x5_1).f4)) := hcc10 4 _ rfl; have hx10_5 : w21.cell? ⟨go5, (x5_1 : Int).toNat * 6 + 5, none⟩ = some (.int .i64 ((rd_T52 y367 x5_1).f5)) := hcc10 5 _ rfl; have hf10_0 : w21.frozen? ⟨go5, (x5_1 : Int).toNat * 6, none⟩ = false := hfr10 0; have hf10_1 : w21.frozen? ⟨go5, (x5_1 : Int).toNat * 6 + 1, none⟩ = false := hfr10 1; have hf10_2 : w21.frozen? ⟨go5, (x5_1 : Int).toNat * 6 + 2, none⟩ = false := hfr10 2; have hf10_3 : w21.frozen? ⟨go5, (x5_1 : Int).toNat * 6 + 3, none⟩ = false := hfr10 3; have hf10_4 : w21.frozen? ⟨go5, (x5_1 : Int).toNat * 6 + 4, none⟩ = false := hfr10 4; have hf10_5 : w21.frozen? ⟨go5, (x5_1 : Int).toNat * 6 + 5, none⟩ = false := hfr10 5; clear hcl10 hcc10 hfr10 hM10; replace p10 := eq_true p10; replace q10 := eq_true q10; have HX22 := ra (show Kd.R k52 52 w21 w0.heap.size (fun k_ => (P0_ k_ ∨ w.heap.size ≤ k_)) (.slice (some ⟨go5, 0, none⟩) x0_1.length co12) y367 from (rq HO_0)); obtain ⟨ce22, hcl22, hM22, hcc22, hfr22⟩ := Kd.R_elem HX22.out z52 (x5_1 : Int) (od) (by have h_ : (x5_1 : Int) < ((x0_1.length : Int) : Int) := od; first | exact h_ | (have e_ := (Kd.R_reads' HO_0.out).1; omega) | simpa using h_); obtain rfl := k52_openM hM22; have HP22 := Kd.R_seg HX22.out (x5_1 : Int) (od) (by have h_ : (x5_1 : Int) < ((x0_1.length : Int) : Int) := od; first | exact h_ | (have e_ := (Kd.R_reads' HO_0.out).1; omega) | simpa using h_) (seg := [.string t368]) (j := 4) hcl22 hcc22 (show 5 ≤ 6 from by decide) (x' := (⟨(rd_T52 y367 x5_1).f0, (rd_T52 y367 x5_1).f1, (rd_T52 y367 x5_1).f2, (rd_T52 y367 x5_1).f3, t368, (rd_T52 y367 x5_1).f5⟩ : S52)) (k52_mkM _ _ _ (⟨(rd_T52 y367 x5_1).f0, (rd_T52 y367 x5_1).f1, (rd_T52 y367 x5_1).f2, (rd_T52 y367 x5_1).f3, t368, (rd_T52 y367 x5_1).f5⟩ : S52) ) (fun _ hk => hk); have hx22_4 := hcc22 4 _ rfl; (try simp only [show (k52).sz = 6 from rfl, Nat.mul_one, Nat.add_zero] at hx22_4); have hf22_4 := hfr22 4; (try simp only [show (k52).sz = 6 from rfl, Nat.mul_one, Nat.add_zero] at hf22_4); clear hcl22 hcc22 hfr22 hM22) | ((with_reducible refine gate_store (t := 9) (p := 45) rfl ?_); refine store_event (t := 9) (p := 45) (v := ?vo_w23) (w1 := (w21.setCell ⟨go5, (x5_1 : Int).toNat * 6 + 4, none⟩ (.string t368))) ?hg ?ho ?hn ?hr ?_; (case ho => rfl); (case hg => rfl); (case hn => rfl); (case hr => first | (go_simp; done) | (go_simp; rfl)); intro w23 hw; have hg : w21.grownBy w23 (some go5) := (by rw [hw]; exact HP22.2); have hp_ : Kd.R k52 52 w23 w0.heap.size (fun k_ => (P0_ k_ ∨ w.heap.size ≤ k_)) (.slice (some ⟨go5, 0, none⟩) x0_1.length co12) y369 := (by rw [hw, Ny369.out]; exact HP22.1); clear HP22; have _ := ra (hp_); have _ := ra ((by rw [hw]; exact below_set (HB.out) GB5.out : Below w0.heap.size w0 w23)); have _ := ra (Kept.of_grown (S := (fun k_ => P0_ k_)) hg (by repeat (first | (with_reducible first | exact HK.out | apply Kept.alloc | apply Kept.drewN | apply Kept.drew) | exact HK.out)) (fun k_ e_ => (HO_0.out.1 k_ e_))); clear HO_0 HB HK; rename_i HO_0 HB HK; clear hg hw hp_; have p11 : 0 ≤ (x5_1 : Int) := od; have q11 : (x5_1 : Int) < ((x0_1.length : Int) : Int) := od; obtain ⟨ce11, hcl11, hM11, hcc11, hfr11⟩ := Kd.R_elem HO_0.out z52 (x5_1 : Int) p11 q11; obtain rfl := k52_openM hM11; have hx11_0 : w23.cell? ⟨go5, (x5_1 : Int).toNat * 6, none⟩ = some (.int .i64 ((rd_T52 y369 x5_1).f0)) := hcc11 0 _ rfl; have hx11_1 : w23.cell? ⟨go5, (x5_1 : Int).toNat * 6 + 1, none⟩ = some (.int .i64 ((rd_T52 y369 x5_1).f1)) := hcc11 1 _ rfl; have hx11_2 : w23.cell? ⟨go5, (x5_1 : Int).toNat * 6 + 2, none⟩ = some (.int .i64 ((rd_T52 y369 x5_1).f2)) := hcc11 2 _ rfl; have hx11_3 : w23.cell? ⟨go5, (x5_1 : Int).toNat * 6 + 3, none⟩ = some (.int .i64 ((rd_T52 y369 x5_1).f3)) := hcc11 3 _ rfl; have hx11_4 : w23.cell? ⟨go5, (x5_1 : Int).toNat * 6 + 4, none⟩ = some (.string ((rd_T52 y369 x5_1).f4)) := hcc11 4 _ rfl; have hx11_5 : w23.cell? ⟨go5, (x5_1 : Int).toNat * 6 + 5, none⟩ = some (.int .i64 ((rd_T52 y369 x5_1).f5)) := hcc11 5 _ rfl; have hf11_0 : w23.frozen? ⟨go5, (x5_1 : Int).toNat * 6, none⟩ = false := hfr11 0; have hf11_1 : w23.frozen? ⟨go5, (x5_1 : Int).toNat * 6 + 1, none⟩ = false := hfr11 1; have hf11_2 : w23.frozen? ⟨go5, (x5_1 : Int).toNat * 6 + 2, none⟩ = false := hfr11 2; have hf11_3 : w23.frozen? ⟨go5, (x5_1 : Int).toNat * 6 + 3, none⟩ = false := hfr11 3; have hf11_4 : w23.frozen? ⟨go5, (x5_1 : Int).toNat * 6 + 4, none⟩ = false := hfr11 4; have hf11_5 : w23.frozen? ⟨go5, (x5_1 : Int).toNat * 6 + 5, none⟩ = false := hfr11 5; clear hcl11 hcc11 hfr11 hM11; replace p11 := eq_true p11; replace q11 := eq_true q11; have HX24 := ra (show Kd.R k52 52 w23 w0.heap.size (fun k_ => (P0_ k_ ∨ w.heap.size ≤ k_)) (.slice (some ⟨go5, 0, none⟩) x0_1.length co12) y369 from (rq HO_0)); obtain ⟨ce24, hcl24, hM24, hcc24, hfr24⟩ := Kd.R_elem HX24.out z52 (x5_1 : Int) (od) (by have h_ : (x5_1 : Int) < ((x0_1.length : Int) : Int) := od; first | exact h_ | (have e_ := (Kd.R_reads' HO_0.out).1; omega) | simpa using h_); obtain rfl := k52_openM hM24; have HP24 := Kd.R_seg HX24.out (x5_1 : Int) (od) (by have h_ : (x5_1 : Int) < ((x0_1.length : Int) : Int) := od; first | exact h_ | (have e_ := (Kd.R_reads' HO_0.out).1; omega) | simpa using h_) (seg := [.int .i64 (wrap64 ((wrap64 ((wrap64 ((wrap64 ((wrap64 (x1_1 + 1)) + 1)) + 1)) + 1)) + 1))]) (j := 5) hcl24 hcc24 (show 6 ≤ 6 from by decide) (x' := (⟨(rd_T52 y369 x5_1).f0, (rd_T52 y369 x5_1).f1, (rd_T52 y369 x5_1).f2, (rd_T52 y369 x5_1).f3, (rd_T52 y369 x5_1).f4, wrap64 ((wrap64 ((wrap64 ((wrap64 ((wrap64 (x1_1 + 1)) + 1)) + 1)) + 1)) + 1)⟩ : S52)) (k52_mkM _ _ _ (⟨(rd_T52 y369 x5_1).f0, (rd_T52 y369 x5_1).f1, (rd_T52 y369 x5_1).f2, (rd_T52 y369 x5_1).f3, (rd_T52 y369 x5_1).f4, wrap64 ((wrap64 ((wrap64 ((wrap64 ((wrap64 (x1_1 + 1)) + 1)) + 1)) + 1)) + 1)⟩ : S52) ) (fun _ hk => hk); have hx24_5 := hcc24 5 _ rfl; (try simp only [show (k52).sz = 6 from rfl, Nat.mul_one, Nat.add_zero] at hx24_5); have hf24_5 := hfr24 5; (try simp only [show (k52).sz = 6 from rfl, Nat.mul_one, Nat.add_zero] at hf24_5); clear hcl24 hcc24 hfr24 hM24) | ((with_reducible refine gate_store (t := 3) (p := 52) rfl ?_); refine store_event (t := 3) (p := 52) (v := ?vo_w25) (w1 := (w23.setCell ⟨go5, (x5_1 : Int).toNat * 6 + 5, none⟩ (.int .i64 (wrap64 ((wrap64 ((wrap64 ((wrap64 ((wrap64 (x1_1 + 1)) + 1)) + 1)) + 1)) + 1))))) ?hg ?ho ?hn ?hr ?_; (case ho => rfl); (case hg => rfl); (case hn => rfl); (case hr => first | (go_simp; done) | (go_simp; rfl)); intro w25 hw; have hg : w23.grownBy w25 (some go5) := (by rw [hw]; exact HP24.2); have hp_ : Kd.R k52 52 w25 w0.heap.size (fun k_ => (P0_ k_ ∨ w.heap.size ≤ k_)) (.slice (some ⟨go5, 0, none⟩) x0_1.length co12) y370 := (by rw [hw, Ny370.out]; exact HP24.1); clear HP24; have _ := ra (hp_); have _ := ra ((by rw [hw]; exact below_set (HB.out) GB5.out : Below w0.heap.size w0 w25)); have _ := ra (Kept.of_grown (S := (fun k_ => P0_ k_)) hg (by repeat (first | (with_reducible first | exact HK.out | apply Kept.alloc | apply Kept.drewN | apply Kept.drew) | exact HK.out)) (fun k_ e_ => (HO_0.out.1 k_ e_))); clear HO_0 HB HK; rename_i HO_0 HB HK; clear hg hw hp_))
     go_roundg k1
     case measure => have := HK1.out; omega
     case rel => exact ⟨(y370), (wrap64 ((wrap64 ((wrap64 ((wrap64 ((wrap64 ((wrap64 (x1_1 + 1)) + 1)) + 1)) + 1)) + 1)) + 1)), (wrap64 (x5_1 + 1)), rs, rs, H', ⟨by have := HK1.out; omega⟩, ⟨rq HO_0⟩, ⟨by repeat (first | (with_reducible first | exact HK.out | apply Kept.alloc | apply Kept.drewN | apply Kept.drew) | exact HK.out)⟩, ⟨bq⟩⟩
    ·rw [if_neg c4] at H
     exact absurd H (by simp)
   ·rw [if_neg c3] at H
    have c3b0 : decide (x5_1 < (x0_1.length : Int)) = false := decide_eq_false c3
    clear c3
    simp only [Option.some.injEq, Prod.mk.injEq] at H
    obtain ⟨rfl, rfl⟩ := H
    obtain ⟨Ao26, co26, eo26⟩ := Kd.R_slice HO_0.out
    subst eo26
    go_wp2
    go_ret
    exact ⟨re, rq HO_0, bq, by repeat (first | (with_reducible first | exact HK.out | apply Kept.alloc | apply Kept.drewN | apply Kept.drew) | exact HK.out)⟩
set_option maxHeartbeats 8000000 in
set_option maxRecDepth 100000 in
theorem laws_markProbeCellS.calls (k : Nat) (P0_ : Nat → Prop) (u9000_ : Value) (l0 : List (S56)) (a1 : Int) (r1 : Int) (r2 : List (S56)) (w0 w : World) (hB : Below w0.heap.size w0 w) (ho0 : Kd.S k56 56 w w0.heap.size P0_ u9000_ l0) (h : laws_markProbeCellS.f k l0 a1 = some (r1, r2)) :
  Calls Try.prog 25 #[u9000_, .int .i64 a1] w fun e w' => e = .returned (.int .i64 r1) ∧ Kd.S k56 56 w' w0.heap.size (fun k_ => P0_ k_) u9000_ r2 ∧ Below w0.heap.size w0 w' ∧ Kept w w' (fun k_ => P0_ k_) := by
 have HO0 := ra (show Kd.S k56 56 w w0.heap.size (fun k_ => P0_ k_) u9000_ l0 from ho0)
 have HK := ra (Kept.refl w (fun k_ => P0_ k_))
 have HW0 := Aside0.mk hB.size
 have HB := Aside0.mk hB
 clear hB
 have H : (laws_markProbeCellS.l0 k l0 a1 0) = some (r1, r2) := h
 clear h
 have H' := Aside0.mk H
 clear H
 go_enter Try.func25, Try.ntmps25
 go_wp2
 go_loopg [1, 5] k (fun kq v1 v5 w' => ∃ (x0_1 : List (S56)) (x1_1 : Int) (x5_1 : Int), v1 = .int .i64 x1_1 ∧ v5 = .int .i64 x5_1 ∧ Aside0 (laws_markProbeCellS.l0 kq x0_1 x1_1 x5_1 = some (r1, r2)) ∧ Aside0 (kq ≤ k) ∧ Aside0 (Kd.S k56 56 w' w0.heap.size (fun k_ => P0_ k_) u9000_ x0_1) ∧ Aside0 (Kept w w' (fun k_ => P0_ k_)) ∧ Aside0 (Below w0.heap.size w0 w'))
 case atStart => exact ⟨(l0), (a1), (0), rs, rs, H', ⟨Nat.le_refl _⟩, ⟨by (with_reducible repeat (first | apply Kd.S_alloc | apply Kd.S_drewN | apply Kd.S_drew)); exact HO0.out⟩, ⟨by repeat (first | (with_reducible first | exact HK.out | apply Kept.alloc | apply Kept.drewN | apply Kept.drew) | exact HK.out)⟩, ⟨bq⟩⟩
 case round =>
  clear H'
  obtain ⟨x0_1, x1_1, x5_1, rfl, rfl, HA, HK1, HO_0, HK, HB⟩ := hrel
  cases gk with
  | zero => exact absurd HA.out (by simp [laws_markProbeCellS.l0])
  | succ k1 =>
   have H := HA.out
   clear HA
   simp only [laws_markProbeCellS.l0] at H
   by_cases c3 : x5_1 < (x0_1.length : Int)
   ·rw [if_pos c3] at H
    have c3b0 : decide (x5_1 < (x0_1.length : Int)) = true := decide_eq_true c3
    clear c3
    by_cases c4 : 0 ≤ x5_1
    ·rw [if_pos c4] at H
     have c4b0 : decide (0 ≤ x5_1) = true := decide_eq_true c4
     clear c4
     obtain ⟨y371, hy_⟩ : ∃ y_ : List (S56), y_ = (x0_1.set (x5_1 : Int).toNat (⟨x1_1, (rd_T56 x0_1 x5_1).f1, (rd_T56 x0_1 x5_1).f2⟩ : S56)) := ⟨_, rfl⟩
     replace H : ((some (y371.set (x5_1 : Int).toNat (⟨(rd_T56 y371 x5_1).f0, wrap64 (x1_1 + 1), (rd_T56 y371 x5_1).f2⟩ : S56) : List (S56))).bind fun y372 => ((laws_markProbeSlotS.f k1 ((rd_T56 y372 x5_1).f2) (wrap64 ((wrap64 (x1_1 + 1)) + 1))).bind fun bt_ => (laws_markProbeCellS.l0 k1 (y372.set (x5_1 : Int).toNat (⟨(rd_T56 y372 x5_1).f0, (rd_T56 y372 x5_1).f1, bt_.2⟩ : S56)) bt_.1 (wrap64 (x5_1 + 1))))) = some (r1, r2) := yh
     have Ny371 := ra hy_
     clear hy_
     obtain ⟨y372, hy_⟩ : ∃ y_ : List (S56), y_ = (y371.set (x5_1 : Int).toNat (⟨(rd_T56 y371 x5_1).f0, wrap64 (x1_1 + 1), (rd_T56 y371 x5_1).f2⟩ : S56)) := ⟨_, rfl⟩
     replace H : ((laws_markProbeSlotS.f k1 ((rd_T56 y372 x5_1).f2) (wrap64 ((wrap64 (x1_1 + 1)) + 1))).bind fun bt_ => (laws_markProbeCellS.l0 k1 (y372.set (x5_1 : Int).toNat (⟨(rd_T56 y372 x5_1).f0, (rd_T56 y372 x5_1).f1, bt_.2⟩ : S56)) bt_.1 (wrap64 (x5_1 + 1)))) = some (r1, r2) := yh
     have Ny372 := ra hy_
     clear hy_
     obtain ⟨⟨t374, t374r⟩, A7, H⟩ := bo H
     try dsimp only at H
     have H' := Aside0.mk H
     clear H
     obtain ⟨Ao8, co8, eo8⟩ := Kd.S_slice HO_0.out
     subst eo8
     have p5 : 0 ≤ (x5_1 : Int) := od
     have q5 : (x5_1 : Int) < ((x0_1.length : Int) : Int) := od
     obtain ⟨go5, co5, eo5, gb5, gl5, cl5, HG5⟩ := Kd.S_form HO_0.out (by omega)
     (first | cases eo5 | (injection eo5 with ea_ en_ ec_; (first | subst ea_ | (injection ea_ with ea_; subst ea_)); subst ec_; clear en_))
     have GB5 := Aside0.mk gb5
     have GG5 := Aside0.mk HG5
     clear gb5 gl5 HG5
     have HMgo5 := ra (show (P0_ go5) from ((Kd.S_R HO_0.out).1 _ rfl))
     obtain ⟨_, ce5, hcl5, hM5, hcc5, hfr5, _, _⟩ := Kd.S_elem HO_0.out z56 (x5_1 : Int) p5 q5
     obtain ⟨ve5_2, rfl, ge5_2⟩ := k56_openM hM5
     have hx5_0 : wr.cell? ⟨go5, (x5_1 : Int).toNat * 3, none⟩ = some (.int .i64 ((rd_T56 x0_1 x5_1).f0)) := hcc5 0 _ rfl
     have hx5_1 : wr.cell? ⟨go5, (x5_1 : Int).toNat * 3 + 1, none⟩ = some (.int .i64 ((rd_T56 x0_1 x5_1).f1)) := hcc5 1 _ rfl
     have hx5_2 : wr.cell? ⟨go5, (x5_1 : Int).toNat * 3 + 2, none⟩ = some (ve5_2) := hcc5 2 _ rfl
     have hf5_0 : wr.frozen? ⟨go5, (x5_1 : Int).toNat * 3, none⟩ = false := hfr5 0
     have hf5_1 : wr.frozen? ⟨go5, (x5_1 : Int).toNat * 3 + 1, none⟩ = false := hfr5 1
     have hf5_2 : wr.frozen? ⟨go5, (x5_1 : Int).toNat * 3 + 2, none⟩ = false := hfr5 2
     clear hcl5 hcc5 hfr5 hM5
     replace p5 := eq_true p5
     replace q5 := eq_true q5
     have HX9 := ra (show Kd.S k56 56 wr w0.heap.size (fun k_ => ((fun k_ => P0_ k_)) k_ ∧ ¬ ((fun _ => False)) k_) (.slice (some ⟨go5, 0, none⟩) x0_1.length co8) x0_1 from (by (with_reducible repeat (first | apply Kd.S_alloc | apply Kd.S_drewN | apply Kd.S_drew)); exact Kd.S_mono HO_0.out (fun k_ hk => ⟨hk, fun e_ => e_⟩)))
     obtain ⟨oki9, ce9, hcl9, hM9, hcc9, hfr9, hoki9, hH9⟩ := Kd.S_elem HX9.out z56 (x5_1 : Int) (od) (by have h_ : (x5_1 : Int) < ((x0_1.length : Int) : Int) := od; first | exact h_ | (have e_ := (Kd.S_reads' HO_0.out).1; omega) | simpa using h_)
     obtain ⟨ve9_2, rfl, ge9_2⟩ := k56_openM hM9
     have HP9 := Kd.S_seg hH9 (od) (by have h_ : (x5_1 : Int) < ((x0_1.length : Int) : Int) := od; first | exact h_ | (have e_ := (Kd.S_reads' HO_0.out).1; omega) | simpa using h_) (seg := [.int .i64 x1_1]) (j := 0) (show 1 ≤ 3 from by decide) (x' := (⟨x1_1, (rd_T56 x0_1 x5_1).f1, (rd_T56 x0_1 x5_1).f2⟩ : S56)) (k56_mkM _ _ _ (⟨x1_1, (rd_T56 x0_1 x5_1).f1, (rd_T56 x0_1 x5_1).f2⟩ : S56) (Kd.R_mono ge9_2 (fun _ h_ => Or.inl h_))) (fun _ hk => hk) (fun k_ hk_ => hk_.elim)
     have hx9_0 := hcc9 0 _ rfl
     (try simp only [show (k56).sz = 3 from rfl, Nat.mul_one, Nat.add_zero] at hx9_0)
     have hf9_0 := hfr9 0
     (try simp only [show (k56).sz = 3 from rfl, Nat.mul_one, Nat.add_zero] at hf9_0)
     clear hcl9 hcc9 hfr9 hM9 hoki9 hH9
     go_wp2_with (first | ((with_reducible refine gate_store (t := 3) (p := 16) rfl ?_); refine store_event (t := 3) (p := 16) (v := ?vo_w10) (w1 := (wr.setCell ⟨go5, (x5_1 : Int).toNat * 3, none⟩ (.int .i64 x1_1))) ?hg ?ho ?hn ?hr ?_; (case ho => rfl); (case hg => rfl); (case hn => rfl); (case hr => first | (go_simp; done) | (go_simp; rfl)); intro w10 hw; have hg : wr.grownBy w10 (some go5) := (by rw [hw]; exact HP9.2); have hp_ : Kd.S k56 56 w10 w0.heap.size (fun k_ => P0_ k_) (.slice (some ⟨go5, 0, none⟩) x0_1.length co8) y371 := (by rw [hw, Ny371.out]; exact HP9.1); clear HP9; have _ := ra (hp_); have _ := ra ((by rw [hw]; exact below_set (HB.out) GB5.out : Below w0.heap.size w0 w10)); have _ := ra (Kept.of_grown (S := (fun k_ => P0_ k_)) hg (by repeat (first | (with_reducible first | exact HK.out | apply Kept.alloc | apply Kept.drewN | apply Kept.drew) | exact HK.out)) (fun k_ e_ => .inl ((Kd.S_R HO_0.out).1 k_ e_))); clear HO_0 HB HK; rename_i HO_0 HB HK; clear hg hw hp_; have p6 : 0 ≤ (x5_1 : Int) := od; have q6 : (x5_1 : Int) < ((x0_1.length : Int) : Int) := od; obtain ⟨_, ce6, hcl6, hM6, hcc6, hfr6, _, _⟩ := Kd.S_elem HO_0.out z56 (x5_1 : Int) p6 q6; obtain ⟨ve6_2, rfl, ge6_2⟩ := k56_openM hM6; have hx6_0 : w10.cell? ⟨go5, (x5_1 : Int).toNat * 3, none⟩ = some (.int .i64 ((rd_T56 y371 x5_1).f0)) := hcc6 0 _ rfl; have hx6_1 : w10.cell? ⟨go5, (x5_1 : Int).toNat * 3 + 1, none⟩ = some (.int .i64 ((rd_T56 y371 x5_1).f1)) := hcc6 1 _ rfl; have hx6_2 : w10.cell? ⟨go5, (x5_1 : Int).toNat * 3 + 2, none⟩ = some (ve6_2) := hcc6 2 _ rfl; have hf6_0 : w10.frozen? ⟨go5, (x5_1 : Int).toNat * 3, none⟩ = false := hfr6 0; have hf6_1 : w10.frozen? ⟨go5, (x5_1 : Int).toNat * 3 + 1, none⟩ = false := hfr6 1; have hf6_2 : w10.frozen? ⟨go5, (x5_1 : Int).toNat * 3 + 2, none⟩ = false := hfr6 2; clear hcl6 hcc6 hfr6 hM6; replace p6 := eq_true p6; replace q6 := eq_true q6; have HX11 := ra (show Kd.S k56 56 w10 w0.heap.size (fun k_ => ((fun k_ => P0_ k_)) k_ ∧ ¬ ((fun _ => False)) k_) (.slice (some ⟨go5, 0, none⟩) x0_1.length co8) y371 from (by (with_reducible repeat (first | apply Kd.S_alloc | apply Kd.S_drewN | apply Kd.S_drew)); exact Kd.S_mono HO_0.out (fun k_ hk => ⟨hk, fun e_ => e_⟩))); obtain ⟨oki11, ce11, hcl11, hM11, hcc11, hfr11, hoki11, hH11⟩ := Kd.S_elem HX11.out z56 (x5_1 : Int) (od) (by have h_ : (x5_1 : Int) < ((x0_1.length : Int) : Int) := od; first | exact h_ | (have e_ := (Kd.S_reads' HO_0.out).1; omega) | simpa using h_); obtain ⟨ve11_2, rfl, ge11_2⟩ := k56_openM hM11; have HP11 := Kd.S_seg hH11 (od) (by have h_ : (x5_1 : Int) < ((x0_1.length : Int) : Int) := od; first | exact h_ | (have e_ := (Kd.S_reads' HO_0.out).1; omega) | simpa using h_) (seg := [.int .i64 (wrap64 (x1_1 + 1))]) (j := 1) (show 2 ≤ 3 from by decide) (x' := (⟨(rd_T56 y371 x5_1).f0, wrap64 (x1_1 + 1), (rd_T56 y371 x5_1).f2⟩ : S56)) (k56_mkM _ _ _ (⟨(rd_T56 y371 x5_1).f0, wrap64 (x1_1 + 1), (rd_T56 y371 x5_1).f2⟩ : S56) (Kd.R_mono ge11_2 (fun _ h_ => Or.inl h_))) (fun _ hk => hk) (fun k_ hk_ => hk_.elim); have hx11_1 := hcc11 1 _ rfl; (try simp only [show (k56).sz = 3 from rfl, Nat.mul_one, Nat.add_zero] at hx11_1); have hf11_1 := hfr11 1; (try simp only [show (k56).sz = 3 from rfl, Nat.mul_one, Nat.add_zero] at hf11_1); clear hcl11 hcc11 hfr11 hM11 hoki11 hH11) | ((with_reducible refine gate_store (t := 3) (p := 23) rfl ?_); refine store_event (t := 3) (p := 23) (v := ?vo_w12) (w1 := (w10.setCell ⟨go5, (x5_1 : Int).toNat * 3 + 1, none⟩ (.int .i64 (wrap64 (x1_1 + 1))))) ?hg ?ho ?hn ?hr ?_; (case ho => rfl); (case hg => rfl); (case hn => rfl); (case hr => first | (go_simp; done) | (go_simp; rfl)); intro w12 hw; have hg : w10.grownBy w12 (some go5) := (by rw [hw]; exact HP11.2); have hp_ : Kd.S k56 56 w12 w0.heap.size (fun k_ => P0_ k_) (.slice (some ⟨go5, 0, none⟩) x0_1.length co8) y372 := (by rw [hw, Ny372.out]; exact HP11.1); clear HP11; have _ := ra (hp_); have _ := ra ((by rw [hw]; exact below_set (HB.out) GB5.out : Below w0.heap.size w0 w12)); have _ := ra (Kept.of_grown (S := (fun k_ => P0_ k_)) hg (by repeat (first | (with_reducible first | exact HK.out | apply Kept.alloc | apply Kept.drewN | apply Kept.drew) | exact HK.out)) (fun k_ e_ => .inl ((Kd.S_R HO_0.out).1 k_ e_))); clear HO_0 HB HK; rename_i HO_0 HB HK; clear hg hw hp_; have p373 : 0 ≤ (x5_1 : Int) := od; have q373 : x5_1 < (y372.length : Int) := (by have h_ : (x5_1 : Int) < ((x0_1.length : Int) : Int) := od; first | (have e_ := (Kd.S_reads' HO_0.out).1; omega) | simpa only [Ny371.out, Ny372.out, List.length_set] using h_); have ql373 : ((x5_1 : Int) < ((x0_1.length : Int) : Int)) = True := eq_true (od); obtain ⟨ad373, A373_2, c373_2, e373, hx373_0, hx373_1, hx373_2, hl373_2, hi373_2⟩ := at_T56 (Kd.S_reads' HO_0.out).2.2 x5_1 p373 q373; obtain rfl : (⟨go5, 0, none⟩ : Addr) = ad373 := (by injection e373); (first | simp only [add_plain] at hx373_0 | simp only [add_at] at hx373_0 | simp only [Addr.add, Nat.zero_add] at hx373_0 | skip); (first | simp only [add_plain] at hx373_1 | simp only [add_at] at hx373_1 | simp only [Addr.add, Nat.zero_add] at hx373_1 | skip); (first | simp only [add_plain] at hx373_2 | simp only [add_at] at hx373_2 | simp only [Addr.add, Nat.zero_add] at hx373_2 | skip); obtain ⟨okX, ceX, hclX, hMX, hccX, hfrX, hokX, hHX⟩ := Kd.S_elem HO_0.out z56 x5_1 p373 (by first | exact q373 | exact od | (have e_ := (Kd.S_reads' HO_0.out).1; omega)); obtain ⟨veX, rfl, geX⟩ := k56_openM hMX; have hvX : veX = .slice A373_2 ((rd_T56 y372 x5_1).f2).length c373_2 := Option.some.inj ((hccX 2 _ rfl).symm.trans hx373_2); subst hvX; have HGX := ra geX; have HHX := ra hHX; have HOX := ra hokX; clear geX hHX hokX hclX hccX hfrX hMX; replace p373 := eq_true p373; replace q373 := eq_true q373) | ((with_reducible refine gate_callee (f := 39) rfl ?_); refine gl (some 32) Try.func39 #[.slice A373_2 ((rd_T56 y372 x5_1).f2).length c373_2, .int .i64 (wrap64 ((wrap64 (x1_1 + 1)) + 1))] ?_; (with_reducible refine (laws_markProbeSlotS.calls k1 (fun k_ => some k_ = (.slice A373_2 ((rd_T56 y372 x5_1).f2).length c373_2 : Value).ownBlock) (.slice A373_2 ((rd_T56 y372 x5_1).f2).length c373_2) ((rd_T56 y372 x5_1).f2) (wrap64 ((wrap64 (x1_1 + 1)) + 1)) t374 t374r w0 _ ?side1 ?side2 A7.out).mono ?_); (case side1 => repeat (first | (with_reducible first | exact HB.out | apply below_alloc | apply pw_below_drewN | apply below_drew1) | exact HB.out)); (case side2 => exact Kd.R_tight rfl HGX.out); rintro e w13 ⟨rfl, hy0, hb, hkp⟩; refine ⟨_, rfl, ?_⟩; have _ := ra (Kd.H_back (Kd.H_kept HHX.out hkp (fun k_ hk_ hn_ hs_ => hn_ (HGX.out.1 k_ hs_.symm))) (k56_mkM _ _ _ (⟨(rd_T56 y372 x5_1).f0, (rd_T56 y372 x5_1).f1, t374r⟩ : S56) (Kd.R_reok rfl hy0 (fun k_ e_ => HGX.out.1 k_ e_))) (fun _ h_ => h_)); have _ := ra (Kept.then_ (S := (fun k_ => P0_ k_)) (HK.out) hkp (fun k_ hs_ => .inl (HOX.out k_ (HGX.out.1 k_ hs_.symm)).1)); have _ := ra hb; clear HO_0 HK HB HHX HGX HOX hy0 hkp hb; rename_i HO_0 HK HB))
     go_roundg k1
     case measure => have := HK1.out; omega
     case rel => exact ⟨(y372.set (x5_1 : Int).toNat (⟨(rd_T56 y372 x5_1).f0, (rd_T56 y372 x5_1).f1, t374r⟩ : S56)), (t374), (wrap64 (x5_1 + 1)), rs, rs, H', ⟨by have := HK1.out; omega⟩, ⟨by (with_reducible repeat (first | apply Kd.S_alloc | apply Kd.S_drewN | apply Kd.S_drew)); exact HO_0.out⟩, ⟨by repeat (first | (with_reducible first | exact HK.out | apply Kept.alloc | apply Kept.drewN | apply Kept.drew) | exact HK.out)⟩, ⟨bq⟩⟩
    ·rw [if_neg c4] at H
     exact absurd H (by simp)
   ·rw [if_neg c3] at H
    have c3b0 : decide (x5_1 < (x0_1.length : Int)) = false := decide_eq_false c3
    clear c3
    simp only [Option.some.injEq, Prod.mk.injEq] at H
    obtain ⟨rfl, rfl⟩ := H
    obtain ⟨Ao14, co14, eo14⟩ := Kd.S_slice HO_0.out
    subst eo14
    go_wp2
    go_ret
    exact ⟨re, by (with_reducible repeat (first | apply Kd.S_alloc | apply Kd.S_drewN | apply Kd.S_drew)); exact HO_0.out, bq, by repeat (first | (with_reducible first | exact HK.out | apply Kept.alloc | apply Kept.drewN | apply Kept.drew) | exact HK.out)⟩
set_option maxHeartbeats 8000000 in
set_option maxRecDepth 100000 in
theorem laws_markProbeIndex.calls (k : Nat) (P0_0_ : Nat → Prop) (u9000_ : Value) (l0_0 : List (S56)) (a1 : Int) (r1 : Int) (r2 : List (S56)) (w0 w : World) (hB : Below w0.heap.size w0 w) (ho0_0 : Kd.S k56 56 w w0.heap.size P0_0_ u9000_ l0_0) (h : laws_markProbeIndex.f k l0_0 a1 = some (r1, r2)) :
  Calls Try.prog 11 #[.agg #[u9000_], .int .i64 a1] w fun e w' => e = .returned (.int .i64 r1) ∧ Kd.S k56 56 w' w0.heap.size (fun k_ => (P0_0_ k_ ∨ w.heap.size ≤ k_)) u9000_ r2 ∧ Below w0.heap.size w0 w' ∧ Kept w w' (fun k_ => P0_0_ k_) := by
 have hu26 := Try.underlying26
 have HO0_0 := ra (show Kd.S k56 56 w w0.heap.size (fun k_ => P0_0_ k_) u9000_ l0_0 from ho0_0)
 have HK := ra (Kept.refl w (fun k_ => P0_0_ k_))
 have HW0 := Aside0.mk hB.size
 have HB := Aside0.mk hB
 clear hB
 have H : ((laws_markProbeCellS.f k l0_0 a1).bind fun bt376 => (some (bt376.1, bt376.2))) = some (r1, r2) := h
 clear h
 obtain ⟨⟨t376, t377⟩, A3, H⟩ := bo H
 try dsimp only at H
 simp only [Option.some.injEq, Prod.mk.injEq] at H
 obtain ⟨rfl, rfl⟩ := H
 obtain ⟨Ao4, co4, eo4⟩ := Kd.S_slice HO0_0.out
 subst eo4
 go_enter Try.func11, Try.ntmps11
 go_wp2_with (first | ((with_reducible refine gate_dst (N := 2) rfl ?_); refine be 2 #[.slice Ao4 l0_0.length co4] 26 ?_; intro gb375 hg w5 hbox hb; have _ := ra (Kd.S_below (by (with_reducible repeat (first | apply Kd.S_alloc | apply Kd.S_drewN | apply Kd.S_drew)); exact HO0_0.out) hb); have _ := ra (Kept.below (S := (fun k_ => P0_0_ k_)) (by repeat (first | (with_reducible first | exact HK.out | apply Kept.alloc | apply Kept.drewN | apply Kept.drew) | exact HK.out)) hb); have _ := bs hb; have _ := ra (hbox); have _ := ra ((by rw [hg]; exact (by first | exact HK.out.1 | exact (show Kept w _ (fun k_ => P0_0_ k_) from by repeat (first | (with_reducible first | exact HK.out | apply Kept.alloc | apply Kept.drewN | apply Kept.drew) | exact HK.out)).1) : w.heap.size ≤ gb375)); have _ := ra ((by rw [hg]; exact (below_size bq) : w0.heap.size ≤ gb375)); clear HO0_0 HK HB; rename_i HO0_0 HK HB BK375 GW375 GE375; clear hb hbox hg; obtain ⟨hcz6_0, hfz6_0⟩ := zc1 BK375) | ((with_reducible refine gate_callee (f := 25) rfl ?_); refine gl (some 8) Try.func25 #[.slice Ao4 l0_0.length co4, .int .i64 a1] ?_; (with_reducible refine (laws_markProbeCellS.calls k _ (.slice Ao4 l0_0.length co4) l0_0 a1 t376 t377 w0 _ ?side1 (Z.S_typ HO0_0.out) A3.out).mono ?_); (case side1 => repeat (first | (with_reducible first | exact HB.out | apply below_alloc | apply pw_below_drewN | apply below_drew1 | refine below_set ?_ GE375.out) | exact HB.out)); rintro e w7 ⟨rfl, hy0, hb, hkp⟩; refine ⟨_, rfl, ?_⟩; have _ := ra (Kd.S_mono (ok' := fun k_ => (P0_0_ k_ ∨ w.heap.size ≤ k_)) hy0 (fun k_ hk => .inl hk.1)); have _ := ra (Z.blk_keptT (bk BK375) hkp (by decide)); have _ := ra (Kept.then_ (S := (fun k_ => P0_0_ k_)) (by repeat (first | (with_reducible first | exact HK.out | apply Kept.alloc | apply Kept.drewN | apply Kept.drew | refine Kept.setCell ?_ (.inr GW375.out) _) | exact HK.out)) hkp (fun k_ hs_ => .inl hs_.1)); have _ := ra (hb); clear HO0_0 BK375 HK HB; rename_i HO0_0 BK375 HK HB; (try clear hb); (try clear hkp); (try clear hy0)))
 go_ret
 exact ⟨re, by (with_reducible repeat (first | apply Kd.S_alloc | apply Kd.S_drewN | apply Kd.S_drew)); exact HO0_0.out, bq, by repeat (first | (with_reducible first | exact HK.out | apply Kept.alloc | apply Kept.drewN | apply Kept.drew | refine Kept.setCell ?_ (.inr GW375.out) _) | exact HK.out)⟩
def laws_heldProbeSlotS.T16 : Bool × List (List Nat × List Nat) := (true, [([], []), ([], []), ([0, 1], [0, 1]), ([2], [2]), ([3], [3]), ([], []), ([5], [5]), ([4, 6], [4, 6])])
def laws_heldProbeSlotS.B16 : List Nat := [0, 0, 3, 7, 15, 0, 32, 127]
theorem laws_heldProbeSlotS.tab16 : rtab .any (opsOf Try.f40 16) = laws_heldProbeSlotS.T16 := by kernel_rfl
theorem laws_heldProbeSlotS.bits16 : waitsOk laws_heldProbeSlotS.T16.2 laws_heldProbeSlotS.B16 = true := by kernel_rfl
set_option maxHeartbeats 8000000 in
set_option maxRecDepth 100000 in
theorem laws_heldProbeSlotS.calls (k : Nat) (A0 : Option Addr) (c0 : Nat) (l0 : List (S52)) (a1 : Int) (r : Int) (w : World) (hr0 : Kd.C k52 w A0 l0.length l0) (hc0 : l0.length ≤ c0) (h : laws_heldProbeSlotS.f k l0 a1 = some r) :
  Calls Try.prog 40 #[.slice A0 l0.length c0, .int .i64 a1] w fun e w' => e = .returned (.int .i64 r) ∧ Below w.heap.size w w' := by
 have HR0 := Aside0.mk hr0
 have HC0 := Aside0.mk hc0
 clear hr0 hc0
 have HB := ra (Below.refl w.heap.size w)
 have H : (laws_heldProbeSlotS.l0 k l0 a1 0) = some r := h
 clear h
 have H' := Aside0.mk H
 clear H
 go_enter Try.func40, Try.ntmps40
 go_wp2
 go_loopg [1, 5] k (fun kq v1 v5 w' => ∃ (x1_1 : Int) (x5_1 : Int), v1 = .int .i64 x1_1 ∧ v5 = .int .i64 x5_1 ∧ Aside0 (laws_heldProbeSlotS.l0 kq l0 x1_1 x5_1 = some r) ∧ Aside0 (kq ≤ k) ∧ Aside0 (Below w.heap.size w w'))
 case atStart => exact ⟨(a1), (0), rs, rs, H', ⟨Nat.le_refl _⟩, ⟨bq⟩⟩
 case round =>
  clear H'
  obtain ⟨x1_1, x5_1, rfl, rfl, HA, HK1, HB⟩ := hrel
  cases gk with
  | zero => exact absurd HA.out (by simp [laws_heldProbeSlotS.l0])
  | succ k1 =>
   have H := HA.out
   clear HA
   simp only [laws_heldProbeSlotS.l0] at H
   by_cases c3 : x5_1 < (l0.length : Int)
   ·rw [if_pos c3] at H
    have c3b0 : decide (x5_1 < (l0.length : Int)) = true := decide_eq_true c3
    clear c3
    by_cases c4 : 0 ≤ x5_1
    ·rw [if_pos c4] at H
     have c4b0 : decide (0 ≤ x5_1) = true := decide_eq_true c4
     clear c4
     by_cases c5 : ((rd_T52 l0 x5_1).f0) = x1_1
     ·rw [if_pos c5] at H
      have c5b0 : (((rd_T52 l0 x5_1).f0) == x1_1) = true := beq_iff_eq.mpr c5
      have c5b1 : (((rd_T52 l0 x5_1).f0) != x1_1) = false := bne_eq_false_iff_eq.mpr c5
      clear c5
      by_cases c6 : ((rd_T52 l0 x5_1).f1) = (wrap64 (x1_1 + 1))
      ·rw [if_pos c6] at H
       have c6b0 : (((rd_T52 l0 x5_1).f1) == (wrap64 (x1_1 + 1))) = true := beq_iff_eq.mpr c6
       have c6b1 : (((rd_T52 l0 x5_1).f1) != (wrap64 (x1_1 + 1))) = false := bne_eq_false_iff_eq.mpr c6
       clear c6
       by_cases c7 : ((rd_T52 l0 x5_1).f2) = (wrap64 ((wrap64 (x1_1 + 1)) + 1))
       ·rw [if_pos c7] at H
        have c7b0 : (((rd_T52 l0 x5_1).f2) == (wrap64 ((wrap64 (x1_1 + 1)) + 1))) = true := beq_iff_eq.mpr c7
        have c7b1 : (((rd_T52 l0 x5_1).f2) != (wrap64 ((wrap64 (x1_1 + 1)) + 1))) = false := bne_eq_false_iff_eq.mpr c7
        clear c7
        by_cases c8 : ((rd_T52 l0 x5_1).f3) = (wrap64 ((wrap64 ((wrap64 (x1_1 + 1)) + 1)) + 1))
        ·rw [if_pos c8] at H
         have c8b0 : (((rd_T52 l0 x5_1).f3) == (wrap64 ((wrap64 ((wrap64 (x1_1 + 1)) + 1)) + 1))) = true := beq_iff_eq.mpr c8
         have c8b1 : (((rd_T52 l0 x5_1).f3) != (wrap64 ((wrap64 ((wrap64 (x1_1 + 1)) + 1)) + 1))) = false := bne_eq_false_iff_eq.mpr c8
         clear c8
         obtain ⟨t383, A9, H⟩ := bo H
         by_cases c10 : ((rd_T52 l0 x5_1).f4).toList = t383.toList
         ·rw [if_pos c10] at H
          have c10b0 : (((rd_T52 l0 x5_1).f4).toList == t383.toList) = true := beq_iff_eq.mpr c10
          have c10b1 : (((rd_T52 l0 x5_1).f4).toList != t383.toList) = false := bne_eq_false_iff_eq.mpr c10
          clear c10
          by_cases c11 : ((rd_T52 l0 x5_1).f5) = (wrap64 ((wrap64 ((wrap64 ((wrap64 ((wrap64 (x1_1 + 1)) + 1)) + 1)) + 1)) + 1))
          ·rw [if_pos c11] at H
           have c11b0 : (((rd_T52 l0 x5_1).f5) == (wrap64 ((wrap64 ((wrap64 ((wrap64 ((wrap64 (x1_1 + 1)) + 1)) + 1)) + 1)) + 1))) = true := beq_iff_eq.mpr c11
           have c11b1 : (((rd_T52 l0 x5_1).f5) != (wrap64 ((wrap64 ((wrap64 ((wrap64 ((wrap64 (x1_1 + 1)) + 1)) + 1)) + 1)) + 1))) = false := bne_eq_false_iff_eq.mpr c11
           clear c11
           have H' := Aside0.mk H
           clear H
           have p378 : 0 ≤ (x5_1 : Int) := od
           have q378 : x5_1 < (l0.length : Int) := od
           obtain ⟨ad378, e378, hx378_0, hx378_1, hx378_2, hx378_3, hx378_4, hx378_5⟩ := at_T52 HR0.out x5_1 p378 q378
           cases e378
           replace hx378_0 := hc HB hx378_0
           replace hx378_1 := hc HB hx378_1
           replace hx378_2 := hc HB hx378_2
           replace hx378_3 := hc HB hx378_3
           replace hx378_4 := hc HB hx378_4
           replace hx378_5 := hc HB hx378_5
           replace p378 := eq_true p378
           replace q378 := eq_true q378
           have p379 : 0 ≤ (x5_1 : Int) := od
           have q379 : x5_1 < (l0.length : Int) := od
           obtain ⟨ad379, e379, hx379_0, hx379_1, hx379_2, hx379_3, hx379_4, hx379_5⟩ := at_T52 HR0.out x5_1 p379 q379
           obtain rfl : ad378 = ad379 := (by injection e379)
           replace hx379_0 := hc HB hx379_0
           replace hx379_1 := hc HB hx379_1
           replace hx379_2 := hc HB hx379_2
           replace hx379_3 := hc HB hx379_3
           replace hx379_4 := hc HB hx379_4
           replace hx379_5 := hc HB hx379_5
           replace p379 := eq_true p379
           replace q379 := eq_true q379
           have p380 : 0 ≤ (x5_1 : Int) := od
           have q380 : x5_1 < (l0.length : Int) := od
           obtain ⟨ad380, e380, hx380_0, hx380_1, hx380_2, hx380_3, hx380_4, hx380_5⟩ := at_T52 HR0.out x5_1 p380 q380
           obtain rfl : ad378 = ad380 := (by injection e380)
           replace hx380_0 := hc HB hx380_0
           replace hx380_1 := hc HB hx380_1
           replace hx380_2 := hc HB hx380_2
           replace hx380_3 := hc HB hx380_3
           replace hx380_4 := hc HB hx380_4
           replace hx380_5 := hc HB hx380_5
           replace p380 := eq_true p380
           replace q380 := eq_true q380
           have p381 : 0 ≤ (x5_1 : Int) := od
           have q381 : x5_1 < (l0.length : Int) := od
           obtain ⟨ad381, e381, hx381_0, hx381_1, hx381_2, hx381_3, hx381_4, hx381_5⟩ := at_T52 HR0.out x5_1 p381 q381
           obtain rfl : ad378 = ad381 := (by injection e381)
           replace hx381_0 := hc HB hx381_0
           replace hx381_1 := hc HB hx381_1
           replace hx381_2 := hc HB hx381_2
           replace hx381_3 := hc HB hx381_3
           replace hx381_4 := hc HB hx381_4
           replace hx381_5 := hc HB hx381_5
           replace p381 := eq_true p381
           replace q381 := eq_true q381
           try go_wp2
           have _ := ra (below_drew1 HB.out)
           clear HB
           rename_i HB
           have p382 : 0 ≤ (x5_1 : Int) := od
           have q382 : x5_1 < (l0.length : Int) := od
           obtain ⟨ad382, e382, hx382_0, hx382_1, hx382_2, hx382_3, hx382_4, hx382_5⟩ := at_T52 HR0.out x5_1 p382 q382
           have hw382_5 := hx382_5
           have hw382_4 := hx382_4
           have hw382_3 := hx382_3
           have hw382_2 := hx382_2
           have hw382_1 := hx382_1
           have hw382_0 := hx382_0
           obtain rfl : ad378 = ad382 := (by injection e382)
           replace hx382_0 := hc HB hx382_0
           replace hx382_1 := hc HB hx382_1
           replace hx382_2 := hc HB hx382_2
           replace hx382_3 := hc HB hx382_3
           replace hx382_4 := hc HB hx382_4
           replace hx382_5 := hc HB hx382_5
           replace p382 := eq_true p382
           replace q382 := eq_true q382
           refine start_ (n := 8) (S := fun w' => w'.cell? (ad378.add ((x5_1).toNat * 6)) = some (.int .i64 ((rd_T52 l0 x5_1).f0)) ∧ w'.cell? ⟨(ad378.add ((x5_1).toNat * 6)).block, (ad378.add ((x5_1).toNat * 6)).off + 1, none⟩ = some (.int .i64 ((rd_T52 l0 x5_1).f1)) ∧ w'.cell? ⟨(ad378.add ((x5_1).toNat * 6)).block, (ad378.add ((x5_1).toNat * 6)).off + 2, none⟩ = some (.int .i64 ((rd_T52 l0 x5_1).f2)) ∧ w'.cell? ⟨(ad378.add ((x5_1).toNat * 6)).block, (ad378.add ((x5_1).toNat * 6)).off + 3, none⟩ = some (.int .i64 ((rd_T52 l0 x5_1).f3)) ∧ w'.cell? ⟨(ad378.add ((x5_1).toNat * 6)).block, (ad378.add ((x5_1).toNat * 6)).off + 4, none⟩ = some (.string ((rd_T52 l0 x5_1).f4)) ∧ w'.cell? ⟨(ad378.add ((x5_1).toNat * 6)).block, (ad378.add ((x5_1).toNat * 6)).off + 5, none⟩ = some (.int .i64 ((rd_T52 l0 x5_1).f5))) (ds := []) (bl 8 0) (by kernel_rfl) rfl rfl ⟨(hc HB hw382_0), (hc HB hw382_1), (hc HB hw382_2), (hc HB hw382_3), (hc HB hw382_4), (hc HB hw382_5)⟩ (fun hHeld => ?_); refine with_tabW laws_heldProbeSlotS.tab16 laws_heldProbeSlotS.bits16 (fun HT_ HW_ => ?_)
           generalize wr.drew = w12 at HB hx382_0 hx382_1 hx382_2 hx382_3 hx382_4 hx382_5 hHeld ⊢
           refine pu 0 48 (bl 8 1) ?_
           refine pu 1 49 (bl 8 3) ?_
           refine pu 2 50 (bl 8 7) ?_
           refine pu 3 51 (bl 8 15) ?_
           refine pu 5 53 (bl 8 47) ?_
           refine tk 4 52 (bl 8 63) ?_ hHeld
           refine oe 6 54 (bl 8 127) (fun K hK => ?_)
           refine gs Try.func23 #[.int .i64 (wrap64 ((wrap64 ((wrap64 ((wrap64 (x1_1 + 1)) + 1)) + 1)) + 1))] ?_
           with_reducible refine (laws_markText.calls k1 (wrap64 ((wrap64 ((wrap64 ((wrap64 (x1_1 + 1)) + 1)) + 1)) + 1)) t383 _ A9.out).mono ?_
           rintro e w13 ⟨rfl, hb⟩
           refine ⟨_, rfl, ?_⟩
           have _ := bs hb
           clear HB
           rename_i HB
           (try clear hb)
           (try clear hb2)
           (try clear hk)
           (try clear hi)
           refine hK.out _ _ ⟨(hc HB hw382_0), (hc HB hw382_1), (hc HB hw382_2), (hc HB hw382_3), (hc HB hw382_4), (hc HB hw382_5)⟩ (fun hHeld => ?_)
           clear hK K
           refine nm 54 ?_
           refine pu 7 55 (bl 8 255) ?_
           refine done_ (done_of HT_.out (by kernel_rfl)) ?_
           have p384 : 0 ≤ (x5_1 : Int) := od
           have q384 : x5_1 < (l0.length : Int) := od
           obtain ⟨ad384, e384, hx384_0, hx384_1, hx384_2, hx384_3, hx384_4, hx384_5⟩ := at_T52 HR0.out x5_1 p384 q384
           obtain rfl : ad378 = ad384 := (by injection e384)
           replace hx384_0 := hc HB hx384_0
           replace hx384_1 := hc HB hx384_1
           replace hx384_2 := hc HB hx384_2
           replace hx384_3 := hc HB hx384_3
           replace hx384_4 := hc HB hx384_4
           replace hx384_5 := hc HB hx384_5
           replace p384 := eq_true p384
           replace q384 := eq_true q384
           try go_wp2
           go_roundg k1
           case measure => have := HK1.out; omega
           case rel => exact ⟨(wrap64 ((wrap64 ((wrap64 ((wrap64 ((wrap64 ((wrap64 (x1_1 + 1)) + 1)) + 1)) + 1)) + 1)) + 1)), (wrap64 (x5_1 + 1)), rs, rs, H', ⟨by have := HK1.out; omega⟩, ⟨bq⟩⟩
          ·rw [if_neg c11] at H
           have c11b0 : (((rd_T52 l0 x5_1).f5) == (wrap64 ((wrap64 ((wrap64 ((wrap64 ((wrap64 (x1_1 + 1)) + 1)) + 1)) + 1)) + 1))) = false := beq_eq_false_iff_ne.mpr c11
           have c11b1 : (((rd_T52 l0 x5_1).f5) != (wrap64 ((wrap64 ((wrap64 ((wrap64 ((wrap64 (x1_1 + 1)) + 1)) + 1)) + 1)) + 1))) = true := bne_iff_ne.mpr c11
           obtain rfl := Option.some.inj H
           have p378 : 0 ≤ (x5_1 : Int) := od
           have q378 : x5_1 < (l0.length : Int) := od
           obtain ⟨ad378, e378, hx378_0, hx378_1, hx378_2, hx378_3, hx378_4, hx378_5⟩ := at_T52 HR0.out x5_1 p378 q378
           cases e378
           replace hx378_0 := hc HB hx378_0
           replace hx378_1 := hc HB hx378_1
           replace hx378_2 := hc HB hx378_2
           replace hx378_3 := hc HB hx378_3
           replace hx378_4 := hc HB hx378_4
           replace hx378_5 := hc HB hx378_5
           replace p378 := eq_true p378
           replace q378 := eq_true q378
           have p379 : 0 ≤ (x5_1 : Int) := od
           have q379 : x5_1 < (l0.length : Int) := od
           obtain ⟨ad379, e379, hx379_0, hx379_1, hx379_2, hx379_3, hx379_4, hx379_5⟩ := at_T52 HR0.out x5_1 p379 q379
           obtain rfl : ad378 = ad379 := (by injection e379)
           replace hx379_0 := hc HB hx379_0
           replace hx379_1 := hc HB hx379_1
           replace hx379_2 := hc HB hx379_2
           replace hx379_3 := hc HB hx379_3
           replace hx379_4 := hc HB hx379_4
           replace hx379_5 := hc HB hx379_5
           replace p379 := eq_true p379
           replace q379 := eq_true q379
           have p380 : 0 ≤ (x5_1 : Int) := od
           have q380 : x5_1 < (l0.length : Int) := od
           obtain ⟨ad380, e380, hx380_0, hx380_1, hx380_2, hx380_3, hx380_4, hx380_5⟩ := at_T52 HR0.out x5_1 p380 q380
           obtain rfl : ad378 = ad380 := (by injection e380)
           replace hx380_0 := hc HB hx380_0
           replace hx380_1 := hc HB hx380_1
           replace hx380_2 := hc HB hx380_2
           replace hx380_3 := hc HB hx380_3
           replace hx380_4 := hc HB hx380_4
           replace hx380_5 := hc HB hx380_5
           replace p380 := eq_true p380
           replace q380 := eq_true q380
           have p381 : 0 ≤ (x5_1 : Int) := od
           have q381 : x5_1 < (l0.length : Int) := od
           obtain ⟨ad381, e381, hx381_0, hx381_1, hx381_2, hx381_3, hx381_4, hx381_5⟩ := at_T52 HR0.out x5_1 p381 q381
           obtain rfl : ad378 = ad381 := (by injection e381)
           replace hx381_0 := hc HB hx381_0
           replace hx381_1 := hc HB hx381_1
           replace hx381_2 := hc HB hx381_2
           replace hx381_3 := hc HB hx381_3
           replace hx381_4 := hc HB hx381_4
           replace hx381_5 := hc HB hx381_5
           replace p381 := eq_true p381
           replace q381 := eq_true q381
           try go_wp2
           have _ := ra (below_drew1 HB.out)
           clear HB
           rename_i HB
           have p382 : 0 ≤ (x5_1 : Int) := od
           have q382 : x5_1 < (l0.length : Int) := od
           obtain ⟨ad382, e382, hx382_0, hx382_1, hx382_2, hx382_3, hx382_4, hx382_5⟩ := at_T52 HR0.out x5_1 p382 q382
           have hw382_5 := hx382_5
           have hw382_4 := hx382_4
           have hw382_3 := hx382_3
           have hw382_2 := hx382_2
           have hw382_1 := hx382_1
           have hw382_0 := hx382_0
           obtain rfl : ad378 = ad382 := (by injection e382)
           replace hx382_0 := hc HB hx382_0
           replace hx382_1 := hc HB hx382_1
           replace hx382_2 := hc HB hx382_2
           replace hx382_3 := hc HB hx382_3
           replace hx382_4 := hc HB hx382_4
           replace hx382_5 := hc HB hx382_5
           replace p382 := eq_true p382
           replace q382 := eq_true q382
           refine start_ (n := 8) (S := fun w' => w'.cell? (ad378.add ((x5_1).toNat * 6)) = some (.int .i64 ((rd_T52 l0 x5_1).f0)) ∧ w'.cell? ⟨(ad378.add ((x5_1).toNat * 6)).block, (ad378.add ((x5_1).toNat * 6)).off + 1, none⟩ = some (.int .i64 ((rd_T52 l0 x5_1).f1)) ∧ w'.cell? ⟨(ad378.add ((x5_1).toNat * 6)).block, (ad378.add ((x5_1).toNat * 6)).off + 2, none⟩ = some (.int .i64 ((rd_T52 l0 x5_1).f2)) ∧ w'.cell? ⟨(ad378.add ((x5_1).toNat * 6)).block, (ad378.add ((x5_1).toNat * 6)).off + 3, none⟩ = some (.int .i64 ((rd_T52 l0 x5_1).f3)) ∧ w'.cell? ⟨(ad378.add ((x5_1).toNat * 6)).block, (ad378.add ((x5_1).toNat * 6)).off + 4, none⟩ = some (.string ((rd_T52 l0 x5_1).f4)) ∧ w'.cell? ⟨(ad378.add ((x5_1).toNat * 6)).block, (ad378.add ((x5_1).toNat * 6)).off + 5, none⟩ = some (.int .i64 ((rd_T52 l0 x5_1).f5))) (ds := []) (bl 8 0) (by kernel_rfl) rfl rfl ⟨(hc HB hw382_0), (hc HB hw382_1), (hc HB hw382_2), (hc HB hw382_3), (hc HB hw382_4), (hc HB hw382_5)⟩ (fun hHeld => ?_); refine with_tabW laws_heldProbeSlotS.tab16 laws_heldProbeSlotS.bits16 (fun HT_ HW_ => ?_)
           generalize wr.drew = w14 at HB hx382_0 hx382_1 hx382_2 hx382_3 hx382_4 hx382_5 hHeld ⊢
           refine pu 0 48 (bl 8 1) ?_
           refine pu 1 49 (bl 8 3) ?_
           refine pu 2 50 (bl 8 7) ?_
           refine pu 3 51 (bl 8 15) ?_
           refine pu 5 53 (bl 8 47) ?_
           refine tk 4 52 (bl 8 63) ?_ hHeld
           refine oe 6 54 (bl 8 127) (fun K hK => ?_)
           refine gs Try.func23 #[.int .i64 (wrap64 ((wrap64 ((wrap64 ((wrap64 (x1_1 + 1)) + 1)) + 1)) + 1))] ?_
           with_reducible refine (laws_markText.calls k1 (wrap64 ((wrap64 ((wrap64 ((wrap64 (x1_1 + 1)) + 1)) + 1)) + 1)) t383 _ A9.out).mono ?_
           rintro e w15 ⟨rfl, hb⟩
           refine ⟨_, rfl, ?_⟩
           have _ := bs hb
           clear HB
           rename_i HB
           (try clear hb)
           (try clear hb2)
           (try clear hk)
           (try clear hi)
           refine hK.out _ _ ⟨(hc HB hw382_0), (hc HB hw382_1), (hc HB hw382_2), (hc HB hw382_3), (hc HB hw382_4), (hc HB hw382_5)⟩ (fun hHeld => ?_)
           clear hK K
           refine nm 54 ?_
           refine pu 7 55 (bl 8 255) ?_
           refine done_ (done_of HT_.out (by kernel_rfl)) ?_
           have p384 : 0 ≤ (x5_1 : Int) := od
           have q384 : x5_1 < (l0.length : Int) := od
           obtain ⟨ad384, e384, hx384_0, hx384_1, hx384_2, hx384_3, hx384_4, hx384_5⟩ := at_T52 HR0.out x5_1 p384 q384
           obtain rfl : ad378 = ad384 := (by injection e384)
           replace hx384_0 := hc HB hx384_0
           replace hx384_1 := hc HB hx384_1
           replace hx384_2 := hc HB hx384_2
           replace hx384_3 := hc HB hx384_3
           replace hx384_4 := hc HB hx384_4
           replace hx384_5 := hc HB hx384_5
           replace p384 := eq_true p384
           replace q384 := eq_true q384
           try go_wp2
           go_ret
           exact ⟨re, bq⟩
         ·rw [if_neg c10] at H
          have c10b0 : (((rd_T52 l0 x5_1).f4).toList == t383.toList) = false := beq_eq_false_iff_ne.mpr c10
          have c10b1 : (((rd_T52 l0 x5_1).f4).toList != t383.toList) = true := bne_iff_ne.mpr c10
          obtain rfl := Option.some.inj H
          have p378 : 0 ≤ (x5_1 : Int) := od
          have q378 : x5_1 < (l0.length : Int) := od
          obtain ⟨ad378, e378, hx378_0, hx378_1, hx378_2, hx378_3, hx378_4, hx378_5⟩ := at_T52 HR0.out x5_1 p378 q378
          cases e378
          replace hx378_0 := hc HB hx378_0
          replace hx378_1 := hc HB hx378_1
          replace hx378_2 := hc HB hx378_2
          replace hx378_3 := hc HB hx378_3
          replace hx378_4 := hc HB hx378_4
          replace hx378_5 := hc HB hx378_5
          replace p378 := eq_true p378
          replace q378 := eq_true q378
          have p379 : 0 ≤ (x5_1 : Int) := od
          have q379 : x5_1 < (l0.length : Int) := od
          obtain ⟨ad379, e379, hx379_0, hx379_1, hx379_2, hx379_3, hx379_4, hx379_5⟩ := at_T52 HR0.out x5_1 p379 q379
          obtain rfl : ad378 = ad379 := (by injection e379)
          replace hx379_0 := hc HB hx379_0
          replace hx379_1 := hc HB hx379_1
          replace hx379_2 := hc HB hx379_2
          replace hx379_3 := hc HB hx379_3
          replace hx379_4 := hc HB hx379_4
          replace hx379_5 := hc HB hx379_5
          replace p379 := eq_true p379
          replace q379 := eq_true q379
          have p380 : 0 ≤ (x5_1 : Int) := od
          have q380 : x5_1 < (l0.length : Int) := od
          obtain ⟨ad380, e380, hx380_0, hx380_1, hx380_2, hx380_3, hx380_4, hx380_5⟩ := at_T52 HR0.out x5_1 p380 q380
          obtain rfl : ad378 = ad380 := (by injection e380)
          replace hx380_0 := hc HB hx380_0
          replace hx380_1 := hc HB hx380_1
          replace hx380_2 := hc HB hx380_2
          replace hx380_3 := hc HB hx380_3
          replace hx380_4 := hc HB hx380_4
          replace hx380_5 := hc HB hx380_5
          replace p380 := eq_true p380
          replace q380 := eq_true q380
          have p381 : 0 ≤ (x5_1 : Int) := od
          have q381 : x5_1 < (l0.length : Int) := od
          obtain ⟨ad381, e381, hx381_0, hx381_1, hx381_2, hx381_3, hx381_4, hx381_5⟩ := at_T52 HR0.out x5_1 p381 q381
          obtain rfl : ad378 = ad381 := (by injection e381)
          replace hx381_0 := hc HB hx381_0
          replace hx381_1 := hc HB hx381_1
          replace hx381_2 := hc HB hx381_2
          replace hx381_3 := hc HB hx381_3
          replace hx381_4 := hc HB hx381_4
          replace hx381_5 := hc HB hx381_5
          replace p381 := eq_true p381
          replace q381 := eq_true q381
          try go_wp2
          have _ := ra (below_drew1 HB.out)
          clear HB
          rename_i HB
          have p382 : 0 ≤ (x5_1 : Int) := od
          have q382 : x5_1 < (l0.length : Int) := od
          obtain ⟨ad382, e382, hx382_0, hx382_1, hx382_2, hx382_3, hx382_4, hx382_5⟩ := at_T52 HR0.out x5_1 p382 q382
          have hw382_5 := hx382_5
          have hw382_4 := hx382_4
          have hw382_3 := hx382_3
          have hw382_2 := hx382_2
          have hw382_1 := hx382_1
          have hw382_0 := hx382_0
          obtain rfl : ad378 = ad382 := (by injection e382)
          replace hx382_0 := hc HB hx382_0
          replace hx382_1 := hc HB hx382_1
          replace hx382_2 := hc HB hx382_2
          replace hx382_3 := hc HB hx382_3
          replace hx382_4 := hc HB hx382_4
          replace hx382_5 := hc HB hx382_5
          replace p382 := eq_true p382
          replace q382 := eq_true q382
          refine start_ (n := 8) (S := fun w' => w'.cell? (ad378.add ((x5_1).toNat * 6)) = some (.int .i64 ((rd_T52 l0 x5_1).f0)) ∧ w'.cell? ⟨(ad378.add ((x5_1).toNat * 6)).block, (ad378.add ((x5_1).toNat * 6)).off + 1, none⟩ = some (.int .i64 ((rd_T52 l0 x5_1).f1)) ∧ w'.cell? ⟨(ad378.add ((x5_1).toNat * 6)).block, (ad378.add ((x5_1).toNat * 6)).off + 2, none⟩ = some (.int .i64 ((rd_T52 l0 x5_1).f2)) ∧ w'.cell? ⟨(ad378.add ((x5_1).toNat * 6)).block, (ad378.add ((x5_1).toNat * 6)).off + 3, none⟩ = some (.int .i64 ((rd_T52 l0 x5_1).f3)) ∧ w'.cell? ⟨(ad378.add ((x5_1).toNat * 6)).block, (ad378.add ((x5_1).toNat * 6)).off + 4, none⟩ = some (.string ((rd_T52 l0 x5_1).f4)) ∧ w'.cell? ⟨(ad378.add ((x5_1).toNat * 6)).block, (ad378.add ((x5_1).toNat * 6)).off + 5, none⟩ = some (.int .i64 ((rd_T52 l0 x5_1).f5))) (ds := []) (bl 8 0) (by kernel_rfl) rfl rfl ⟨(hc HB hw382_0), (hc HB hw382_1), (hc HB hw382_2), (hc HB hw382_3), (hc HB hw382_4), (hc HB hw382_5)⟩ (fun hHeld => ?_); refine with_tabW laws_heldProbeSlotS.tab16 laws_heldProbeSlotS.bits16 (fun HT_ HW_ => ?_)
          generalize wr.drew = w16 at HB hx382_0 hx382_1 hx382_2 hx382_3 hx382_4 hx382_5 hHeld ⊢
          refine pu 0 48 (bl 8 1) ?_
          refine pu 1 49 (bl 8 3) ?_
          refine pu 2 50 (bl 8 7) ?_
          refine pu 3 51 (bl 8 15) ?_
          refine pu 5 53 (bl 8 47) ?_
          refine tk 4 52 (bl 8 63) ?_ hHeld
          refine oe 6 54 (bl 8 127) (fun K hK => ?_)
          refine gs Try.func23 #[.int .i64 (wrap64 ((wrap64 ((wrap64 ((wrap64 (x1_1 + 1)) + 1)) + 1)) + 1))] ?_
          with_reducible refine (laws_markText.calls k1 (wrap64 ((wrap64 ((wrap64 ((wrap64 (x1_1 + 1)) + 1)) + 1)) + 1)) t383 _ A9.out).mono ?_
          rintro e w17 ⟨rfl, hb⟩
          refine ⟨_, rfl, ?_⟩
          have _ := bs hb
          clear HB
          rename_i HB
          (try clear hb)
          (try clear hb2)
          (try clear hk)
          (try clear hi)
          refine hK.out _ _ ⟨(hc HB hw382_0), (hc HB hw382_1), (hc HB hw382_2), (hc HB hw382_3), (hc HB hw382_4), (hc HB hw382_5)⟩ (fun hHeld => ?_)
          clear hK K
          refine nm 54 ?_
          refine pu 7 55 (bl 8 255) ?_
          refine done_ (done_of HT_.out (by kernel_rfl)) ?_
          try go_wp2
          go_ret
          exact ⟨re, bq⟩
        ·rw [if_neg c8] at H
         have c8b0 : (((rd_T52 l0 x5_1).f3) == (wrap64 ((wrap64 ((wrap64 (x1_1 + 1)) + 1)) + 1))) = false := beq_eq_false_iff_ne.mpr c8
         have c8b1 : (((rd_T52 l0 x5_1).f3) != (wrap64 ((wrap64 ((wrap64 (x1_1 + 1)) + 1)) + 1))) = true := bne_iff_ne.mpr c8
         obtain rfl := Option.some.inj H
         have p378 : 0 ≤ (x5_1 : Int) := od
         have q378 : x5_1 < (l0.length : Int) := od
         obtain ⟨ad378, e378, hx378_0, hx378_1, hx378_2, hx378_3, hx378_4, hx378_5⟩ := at_T52 HR0.out x5_1 p378 q378
         cases e378
         replace hx378_0 := hc HB hx378_0
         replace hx378_1 := hc HB hx378_1
         replace hx378_2 := hc HB hx378_2
         replace hx378_3 := hc HB hx378_3
         replace hx378_4 := hc HB hx378_4
         replace hx378_5 := hc HB hx378_5
         replace p378 := eq_true p378
         replace q378 := eq_true q378
         have p379 : 0 ≤ (x5_1 : Int) := od
         have q379 : x5_1 < (l0.length : Int) := od
         obtain ⟨ad379, e379, hx379_0, hx379_1, hx379_2, hx379_3, hx379_4, hx379_5⟩ := at_T52 HR0.out x5_1 p379 q379
         obtain rfl : ad378 = ad379 := (by injection e379)
         replace hx379_0 := hc HB hx379_0
         replace hx379_1 := hc HB hx379_1
         replace hx379_2 := hc HB hx379_2
         replace hx379_3 := hc HB hx379_3
         replace hx379_4 := hc HB hx379_4
         replace hx379_5 := hc HB hx379_5
         replace p379 := eq_true p379
         replace q379 := eq_true q379
         have p380 : 0 ≤ (x5_1 : Int) := od
         have q380 : x5_1 < (l0.length : Int) := od
         obtain ⟨ad380, e380, hx380_0, hx380_1, hx380_2, hx380_3, hx380_4, hx380_5⟩ := at_T52 HR0.out x5_1 p380 q380
         obtain rfl : ad378 = ad380 := (by injection e380)
         replace hx380_0 := hc HB hx380_0
         replace hx380_1 := hc HB hx380_1
         replace hx380_2 := hc HB hx380_2
         replace hx380_3 := hc HB hx380_3
         replace hx380_4 := hc HB hx380_4
         replace hx380_5 := hc HB hx380_5
         replace p380 := eq_true p380
         replace q380 := eq_true q380
         have p381 : 0 ≤ (x5_1 : Int) := od
         have q381 : x5_1 < (l0.length : Int) := od
         obtain ⟨ad381, e381, hx381_0, hx381_1, hx381_2, hx381_3, hx381_4, hx381_5⟩ := at_T52 HR0.out x5_1 p381 q381
         obtain rfl : ad378 = ad381 := (by injection e381)
         replace hx381_0 := hc HB hx381_0
         replace hx381_1 := hc HB hx381_1
         replace hx381_2 := hc HB hx381_2
         replace hx381_3 := hc HB hx381_3
         replace hx381_4 := hc HB hx381_4
         replace hx381_5 := hc HB hx381_5
         replace p381 := eq_true p381
         replace q381 := eq_true q381
         go_wp2
         go_ret
         exact ⟨re, bq⟩
       ·rw [if_neg c7] at H
        have c7b0 : (((rd_T52 l0 x5_1).f2) == (wrap64 ((wrap64 (x1_1 + 1)) + 1))) = false := beq_eq_false_iff_ne.mpr c7
        have c7b1 : (((rd_T52 l0 x5_1).f2) != (wrap64 ((wrap64 (x1_1 + 1)) + 1))) = true := bne_iff_ne.mpr c7
        obtain rfl := Option.some.inj H
        have p378 : 0 ≤ (x5_1 : Int) := od
        have q378 : x5_1 < (l0.length : Int) := od
        obtain ⟨ad378, e378, hx378_0, hx378_1, hx378_2, hx378_3, hx378_4, hx378_5⟩ := at_T52 HR0.out x5_1 p378 q378
        cases e378
        replace hx378_0 := hc HB hx378_0
        replace hx378_1 := hc HB hx378_1
        replace hx378_2 := hc HB hx378_2
        replace hx378_3 := hc HB hx378_3
        replace hx378_4 := hc HB hx378_4
        replace hx378_5 := hc HB hx378_5
        replace p378 := eq_true p378
        replace q378 := eq_true q378
        have p379 : 0 ≤ (x5_1 : Int) := od
        have q379 : x5_1 < (l0.length : Int) := od
        obtain ⟨ad379, e379, hx379_0, hx379_1, hx379_2, hx379_3, hx379_4, hx379_5⟩ := at_T52 HR0.out x5_1 p379 q379
        obtain rfl : ad378 = ad379 := (by injection e379)
        replace hx379_0 := hc HB hx379_0
        replace hx379_1 := hc HB hx379_1
        replace hx379_2 := hc HB hx379_2
        replace hx379_3 := hc HB hx379_3
        replace hx379_4 := hc HB hx379_4
        replace hx379_5 := hc HB hx379_5
        replace p379 := eq_true p379
        replace q379 := eq_true q379
        have p380 : 0 ≤ (x5_1 : Int) := od
        have q380 : x5_1 < (l0.length : Int) := od
        obtain ⟨ad380, e380, hx380_0, hx380_1, hx380_2, hx380_3, hx380_4, hx380_5⟩ := at_T52 HR0.out x5_1 p380 q380
        obtain rfl : ad378 = ad380 := (by injection e380)
        replace hx380_0 := hc HB hx380_0
        replace hx380_1 := hc HB hx380_1
        replace hx380_2 := hc HB hx380_2
        replace hx380_3 := hc HB hx380_3
        replace hx380_4 := hc HB hx380_4
        replace hx380_5 := hc HB hx380_5
        replace p380 := eq_true p380
        replace q380 := eq_true q380
        go_wp2
        go_ret
        exact ⟨re, bq⟩
      ·rw [if_neg c6] at H
       have c6b0 : (((rd_T52 l0 x5_1).f1) == (wrap64 (x1_1 + 1))) = false := beq_eq_false_iff_ne.mpr c6
       have c6b1 : (((rd_T52 l0 x5_1).f1) != (wrap64 (x1_1 + 1))) = true := bne_iff_ne.mpr c6
       obtain rfl := Option.some.inj H
       have p378 : 0 ≤ (x5_1 : Int) := od
       have q378 : x5_1 < (l0.length : Int) := od
       obtain ⟨ad378, e378, hx378_0, hx378_1, hx378_2, hx378_3, hx378_4, hx378_5⟩ := at_T52 HR0.out x5_1 p378 q378
       cases e378
       replace hx378_0 := hc HB hx378_0
       replace hx378_1 := hc HB hx378_1
       replace hx378_2 := hc HB hx378_2
       replace hx378_3 := hc HB hx378_3
       replace hx378_4 := hc HB hx378_4
       replace hx378_5 := hc HB hx378_5
       replace p378 := eq_true p378
       replace q378 := eq_true q378
       have p379 : 0 ≤ (x5_1 : Int) := od
       have q379 : x5_1 < (l0.length : Int) := od
       obtain ⟨ad379, e379, hx379_0, hx379_1, hx379_2, hx379_3, hx379_4, hx379_5⟩ := at_T52 HR0.out x5_1 p379 q379
       obtain rfl : ad378 = ad379 := (by injection e379)
       replace hx379_0 := hc HB hx379_0
       replace hx379_1 := hc HB hx379_1
       replace hx379_2 := hc HB hx379_2
       replace hx379_3 := hc HB hx379_3
       replace hx379_4 := hc HB hx379_4
       replace hx379_5 := hc HB hx379_5
       replace p379 := eq_true p379
       replace q379 := eq_true q379
       go_wp2
       go_ret
       exact ⟨re, bq⟩
     ·rw [if_neg c5] at H
      have c5b0 : (((rd_T52 l0 x5_1).f0) == x1_1) = false := beq_eq_false_iff_ne.mpr c5
      have c5b1 : (((rd_T52 l0 x5_1).f0) != x1_1) = true := bne_iff_ne.mpr c5
      obtain rfl := Option.some.inj H
      have p378 : 0 ≤ (x5_1 : Int) := od
      have q378 : x5_1 < (l0.length : Int) := od
      obtain ⟨ad378, e378, hx378_0, hx378_1, hx378_2, hx378_3, hx378_4, hx378_5⟩ := at_T52 HR0.out x5_1 p378 q378
      cases e378
      replace hx378_0 := hc HB hx378_0
      replace hx378_1 := hc HB hx378_1
      replace hx378_2 := hc HB hx378_2
      replace hx378_3 := hc HB hx378_3
      replace hx378_4 := hc HB hx378_4
      replace hx378_5 := hc HB hx378_5
      replace p378 := eq_true p378
      replace q378 := eq_true q378
      go_wp2
      go_ret
      exact ⟨re, bq⟩
    ·rw [if_neg c4] at H
     exact absurd H (by simp)
   ·rw [if_neg c3] at H
    have c3b0 : decide (x5_1 < (l0.length : Int)) = false := decide_eq_false c3
    clear c3
    obtain rfl := Option.some.inj H
    go_wp2
    go_ret
    exact ⟨re, bq⟩
set_option maxHeartbeats 8000000 in
set_option maxRecDepth 100000 in
theorem laws_heldProbeCellS.calls (k : Nat) (A0 : Option Addr) (c0 : Nat) (l0 : List (S56)) (a1 : Int) (r : Int) (w : World) (hr0 : Kd.C k56 w A0 l0.length l0) (hc0 : l0.length ≤ c0) (h : laws_heldProbeCellS.f k l0 a1 = some r) :
  Calls Try.prog 26 #[.slice A0 l0.length c0, .int .i64 a1] w fun e w' => e = .returned (.int .i64 r) ∧ Below w.heap.size w w' := by
 have HR0 := Aside0.mk hr0
 have HC0 := Aside0.mk hc0
 clear hr0 hc0
 have HB := ra (Below.refl w.heap.size w)
 have H : (laws_heldProbeCellS.l0 k l0 a1 0) = some r := h
 clear h
 have H' := Aside0.mk H
 clear H
 go_enter Try.func26, Try.ntmps26
 go_wp2
 go_loopg [1, 5] k (fun kq v1 v5 w' => ∃ (x1_1 : Int) (x5_1 : Int), v1 = .int .i64 x1_1 ∧ v5 = .int .i64 x5_1 ∧ Aside0 (laws_heldProbeCellS.l0 kq l0 x1_1 x5_1 = some r) ∧ Aside0 (kq ≤ k) ∧ Aside0 (Below w.heap.size w w'))
 case atStart => exact ⟨(a1), (0), rs, rs, H', ⟨Nat.le_refl _⟩, ⟨bq⟩⟩
 case round =>
  clear H'
  obtain ⟨x1_1, x5_1, rfl, rfl, HA, HK1, HB⟩ := hrel
  cases gk with
  | zero => exact absurd HA.out (by simp [laws_heldProbeCellS.l0])
  | succ k1 =>
   have H := HA.out
   clear HA
   simp only [laws_heldProbeCellS.l0] at H
   by_cases c3 : x5_1 < (l0.length : Int)
   ·rw [if_pos c3] at H
    have c3b0 : decide (x5_1 < (l0.length : Int)) = true := decide_eq_true c3
    clear c3
    by_cases c4 : 0 ≤ x5_1
    ·rw [if_pos c4] at H
     have c4b0 : decide (0 ≤ x5_1) = true := decide_eq_true c4
     clear c4
     by_cases c5 : ((rd_T56 l0 x5_1).f0) = x1_1
     ·rw [if_pos c5] at H
      have c5b0 : (((rd_T56 l0 x5_1).f0) == x1_1) = true := beq_iff_eq.mpr c5
      have c5b1 : (((rd_T56 l0 x5_1).f0) != x1_1) = false := bne_eq_false_iff_eq.mpr c5
      clear c5
      by_cases c6 : ((rd_T56 l0 x5_1).f1) = (wrap64 (x1_1 + 1))
      ·rw [if_pos c6] at H
       have c6b0 : (((rd_T56 l0 x5_1).f1) == (wrap64 (x1_1 + 1))) = true := beq_iff_eq.mpr c6
       have c6b1 : (((rd_T56 l0 x5_1).f1) != (wrap64 (x1_1 + 1))) = false := bne_eq_false_iff_eq.mpr c6
       clear c6
       obtain ⟨t388, A7, H⟩ := bo H
       by_cases c8 : t388 < 0
       ·rw [if_pos c8] at H
        have c8b0 : decide (t388 < 0) = true := decide_eq_true c8
        clear c8
        obtain rfl := Option.some.inj H
        have p385 : 0 ≤ (x5_1 : Int) := od
        have q385 : x5_1 < (l0.length : Int) := od
        obtain ⟨ad385, A385_2, c385_2, e385, hx385_0, hx385_1, hx385_2, hl385_2, hi385_2⟩ := at_T56 HR0.out x5_1 p385 q385
        cases e385
        replace hx385_0 := hc HB hx385_0
        replace hx385_1 := hc HB hx385_1
        replace hx385_2 := hc HB hx385_2
        have HR385_2 := Aside0.mk hi385_2
        have HC385_2 := Aside0.mk hl385_2
        clear hi385_2 hl385_2
        replace p385 := eq_true p385
        replace q385 := eq_true q385
        have p386 : 0 ≤ (x5_1 : Int) := od
        have q386 : x5_1 < (l0.length : Int) := od
        obtain ⟨ad386, A386_2, c386_2, e386, hx386_0, hx386_1, hx386_2, hl386_2, hi386_2⟩ := at_T56 HR0.out x5_1 p386 q386
        obtain rfl : ad385 = ad386 := (by injection e386)
        replace hx386_0 := hc HB hx386_0
        replace hx386_1 := hc HB hx386_1
        replace hx386_2 := hc HB hx386_2
        have HR386_2 := Aside0.mk hi386_2
        have HC386_2 := Aside0.mk hl386_2
        clear hi386_2 hl386_2
        replace p386 := eq_true p386
        replace q386 := eq_true q386
        have ea_ := Option.some.inj (hx385_2.symm.trans hx386_2)
        injection ea_ with ea_ en_ ec_
        subst ea_
        subst ec_
        clear en_
        have p387 : 0 ≤ (x5_1 : Int) := od
        have q387 : x5_1 < (l0.length : Int) := od
        obtain ⟨ad387, A387_2, c387_2, e387, hx387_0, hx387_1, hx387_2, hl387_2, hi387_2⟩ := at_T56 HR0.out x5_1 p387 q387
        obtain rfl : ad385 = ad387 := (by injection e387)
        replace hx387_0 := hc HB hx387_0
        replace hx387_1 := hc HB hx387_1
        replace hx387_2 := hc HB hx387_2
        have HR387_2 := Aside0.mk hi387_2
        have HC387_2 := Aside0.mk hl387_2
        clear hi387_2 hl387_2
        replace p387 := eq_true p387
        replace q387 := eq_true q387
        have ea_ := Option.some.inj (hx385_2.symm.trans hx387_2)
        injection ea_ with ea_ en_ ec_
        subst ea_
        subst ec_
        clear en_
        go_wp2_with (first | ((with_reducible refine gate_callee (f := 40) rfl ?_); refine gl (some 36) Try.func40 #[.slice A385_2 ((rd_T56 l0 x5_1).f2).length c385_2, .int .i64 (wrap64 ((wrap64 (x1_1 + 1)) + 1))] ?_; (with_reducible refine (laws_heldProbeSlotS.calls k1 _ _ ((rd_T56 l0 x5_1).f2) (wrap64 ((wrap64 (x1_1 + 1)) + 1)) t388 _ ?side1 ?side2 A7.out).mono ?_); (case side1 => exact sc HR387_2); (case side2 => exact HC387_2.out); rintro e w9 ⟨rfl, hb⟩; refine ⟨_, rfl, ?_⟩; have _ := bs hb; clear HB; rename_i HB; (try clear hb); (try clear hb2); (try clear hk); (try clear hi)))
        go_ret
        exact ⟨re, bq⟩
       ·rw [if_neg c8] at H
        have c8b0 : decide (t388 < 0) = false := decide_eq_false c8
        clear c8
        have H' := Aside0.mk H
        clear H
        have p385 : 0 ≤ (x5_1 : Int) := od
        have q385 : x5_1 < (l0.length : Int) := od
        obtain ⟨ad385, A385_2, c385_2, e385, hx385_0, hx385_1, hx385_2, hl385_2, hi385_2⟩ := at_T56 HR0.out x5_1 p385 q385
        cases e385
        replace hx385_0 := hc HB hx385_0
        replace hx385_1 := hc HB hx385_1
        replace hx385_2 := hc HB hx385_2
        have HR385_2 := Aside0.mk hi385_2
        have HC385_2 := Aside0.mk hl385_2
        clear hi385_2 hl385_2
        replace p385 := eq_true p385
        replace q385 := eq_true q385
        have p386 : 0 ≤ (x5_1 : Int) := od
        have q386 : x5_1 < (l0.length : Int) := od
        obtain ⟨ad386, A386_2, c386_2, e386, hx386_0, hx386_1, hx386_2, hl386_2, hi386_2⟩ := at_T56 HR0.out x5_1 p386 q386
        obtain rfl : ad385 = ad386 := (by injection e386)
        replace hx386_0 := hc HB hx386_0
        replace hx386_1 := hc HB hx386_1
        replace hx386_2 := hc HB hx386_2
        have HR386_2 := Aside0.mk hi386_2
        have HC386_2 := Aside0.mk hl386_2
        clear hi386_2 hl386_2
        replace p386 := eq_true p386
        replace q386 := eq_true q386
        have ea_ := Option.some.inj (hx385_2.symm.trans hx386_2)
        injection ea_ with ea_ en_ ec_
        subst ea_
        subst ec_
        clear en_
        have p387 : 0 ≤ (x5_1 : Int) := od
        have q387 : x5_1 < (l0.length : Int) := od
        obtain ⟨ad387, A387_2, c387_2, e387, hx387_0, hx387_1, hx387_2, hl387_2, hi387_2⟩ := at_T56 HR0.out x5_1 p387 q387
        obtain rfl : ad385 = ad387 := (by injection e387)
        replace hx387_0 := hc HB hx387_0
        replace hx387_1 := hc HB hx387_1
        replace hx387_2 := hc HB hx387_2
        have HR387_2 := Aside0.mk hi387_2
        have HC387_2 := Aside0.mk hl387_2
        clear hi387_2 hl387_2
        replace p387 := eq_true p387
        replace q387 := eq_true q387
        have ea_ := Option.some.inj (hx385_2.symm.trans hx387_2)
        injection ea_ with ea_ en_ ec_
        subst ea_
        subst ec_
        clear en_
        go_wp2_with (first | ((with_reducible refine gate_callee (f := 40) rfl ?_); refine gl (some 36) Try.func40 #[.slice A385_2 ((rd_T56 l0 x5_1).f2).length c385_2, .int .i64 (wrap64 ((wrap64 (x1_1 + 1)) + 1))] ?_; (with_reducible refine (laws_heldProbeSlotS.calls k1 _ _ ((rd_T56 l0 x5_1).f2) (wrap64 ((wrap64 (x1_1 + 1)) + 1)) t388 _ ?side1 ?side2 A7.out).mono ?_); (case side1 => exact sc HR387_2); (case side2 => exact HC387_2.out); rintro e w10 ⟨rfl, hb⟩; refine ⟨_, rfl, ?_⟩; have _ := bs hb; clear HB; rename_i HB; (try clear hb); (try clear hb2); (try clear hk); (try clear hi)))
        go_roundg k1
        case measure => have := HK1.out; omega
        case rel => exact ⟨(t388), (wrap64 (x5_1 + 1)), rs, rs, H', ⟨by have := HK1.out; omega⟩, ⟨bq⟩⟩
      ·rw [if_neg c6] at H
       have c6b0 : (((rd_T56 l0 x5_1).f1) == (wrap64 (x1_1 + 1))) = false := beq_eq_false_iff_ne.mpr c6
       have c6b1 : (((rd_T56 l0 x5_1).f1) != (wrap64 (x1_1 + 1))) = true := bne_iff_ne.mpr c6
       obtain rfl := Option.some.inj H
       have p385 : 0 ≤ (x5_1 : Int) := od
       have q385 : x5_1 < (l0.length : Int) := od
       obtain ⟨ad385, A385_2, c385_2, e385, hx385_0, hx385_1, hx385_2, hl385_2, hi385_2⟩ := at_T56 HR0.out x5_1 p385 q385
       cases e385
       replace hx385_0 := hc HB hx385_0
       replace hx385_1 := hc HB hx385_1
       replace hx385_2 := hc HB hx385_2
       have HR385_2 := Aside0.mk hi385_2
       have HC385_2 := Aside0.mk hl385_2
       clear hi385_2 hl385_2
       replace p385 := eq_true p385
       replace q385 := eq_true q385
       have p386 : 0 ≤ (x5_1 : Int) := od
       have q386 : x5_1 < (l0.length : Int) := od
       obtain ⟨ad386, A386_2, c386_2, e386, hx386_0, hx386_1, hx386_2, hl386_2, hi386_2⟩ := at_T56 HR0.out x5_1 p386 q386
       obtain rfl : ad385 = ad386 := (by injection e386)
       replace hx386_0 := hc HB hx386_0
       replace hx386_1 := hc HB hx386_1
       replace hx386_2 := hc HB hx386_2
       have HR386_2 := Aside0.mk hi386_2
       have HC386_2 := Aside0.mk hl386_2
       clear hi386_2 hl386_2
       replace p386 := eq_true p386
       replace q386 := eq_true q386
       have ea_ := Option.some.inj (hx385_2.symm.trans hx386_2)
       injection ea_ with ea_ en_ ec_
       subst ea_
       subst ec_
       clear en_
       go_wp2
       go_ret
       exact ⟨re, bq⟩
     ·rw [if_neg c5] at H
      have c5b0 : (((rd_T56 l0 x5_1).f0) == x1_1) = false := beq_eq_false_iff_ne.mpr c5
      have c5b1 : (((rd_T56 l0 x5_1).f0) != x1_1) = true := bne_iff_ne.mpr c5
      obtain rfl := Option.some.inj H
      have p385 : 0 ≤ (x5_1 : Int) := od
      have q385 : x5_1 < (l0.length : Int) := od
      obtain ⟨ad385, A385_2, c385_2, e385, hx385_0, hx385_1, hx385_2, hl385_2, hi385_2⟩ := at_T56 HR0.out x5_1 p385 q385
      cases e385
      replace hx385_0 := hc HB hx385_0
      replace hx385_1 := hc HB hx385_1
      replace hx385_2 := hc HB hx385_2
      have HR385_2 := Aside0.mk hi385_2
      have HC385_2 := Aside0.mk hl385_2
      clear hi385_2 hl385_2
      replace p385 := eq_true p385
      replace q385 := eq_true q385
      go_wp2
      go_ret
      exact ⟨re, bq⟩
    ·rw [if_neg c4] at H
     exact absurd H (by simp)
   ·rw [if_neg c3] at H
    have c3b0 : decide (x5_1 < (l0.length : Int)) = false := decide_eq_false c3
    clear c3
    obtain rfl := Option.some.inj H
    go_wp2
    go_ret
    exact ⟨re, bq⟩
set_option maxHeartbeats 8000000 in
set_option maxRecDepth 100000 in
theorem laws_heldProbeIndex.calls (k : Nat) (A0_0 : Option Addr) (c0_0 : Nat) (l0_0 : List (S56)) (a1 : Int) (r : Int) (w : World) (hr0_0 : Kd.C k56 w A0_0 l0_0.length l0_0) (hc0_0 : l0_0.length ≤ c0_0) (h : laws_heldProbeIndex.f k l0_0 a1 = some r) :
  Calls Try.prog 12 #[.agg #[.slice A0_0 l0_0.length c0_0], .int .i64 a1] w fun e w' => e = .returned (.int .i64 r) ∧ Below w.heap.size w w' := by
 have hu26 := Try.underlying26
 have HR0_0 := Aside0.mk hr0_0
 have HC0_0 := Aside0.mk hc0_0
 clear hr0_0 hc0_0
 have HB := ra (Below.refl w.heap.size w)
 have H : ((laws_heldProbeCellS.f k l0_0 a1).bind fun t390 => (if t390 < 0 then (some (-1)) else (some t390))) = some r := h
 clear h
 obtain ⟨t390, A3, H⟩ := bo H
 by_cases c4 : t390 < 0
 ·rw [if_pos c4] at H
  have c4b0 : decide (t390 < 0) = true := decide_eq_true c4
  clear c4
  obtain rfl := Option.some.inj H
  go_enter Try.func12, Try.ntmps12
  go_wp2_with (first | ((with_reducible refine gate_dst (N := 2) rfl ?_); refine be 2 #[.slice A0_0 l0_0.length c0_0] 26 ?_; intro gb389 hg w5 hbox hb; have _ := bs hb; have _ := ra (hbox); have _ := bz (w0 := w) hg; have _ := bz (w0 := w) hg; clear HB; rename_i HB BK389 GW389 GE389; clear hb hbox hg; obtain ⟨hcz6_0, hfz6_0⟩ := zc1 BK389) | ((with_reducible refine gate_callee (f := 26) rfl ?_); refine gl (some 8) Try.func26 #[.slice A0_0 l0_0.length c0_0, .int .i64 a1] ?_; (with_reducible refine (laws_heldProbeCellS.calls k _ _ l0_0 a1 t390 _ ?side1 ?side2 A3.out).mono ?_); (case side1 => exact sc HR0_0); (case side2 => exact HC0_0.out); rintro e w7 ⟨rfl, hb⟩; refine ⟨_, rfl, ?_⟩; have _ := bb (bk BK389) hb; have _ := bs hb; clear BK389 HB; rename_i BK389 HB; (try clear hb); (try clear hb2); (try clear hk); (try clear hi)))
  go_ret
  exact ⟨re, bq⟩
 ·rw [if_neg c4] at H
  have c4b0 : decide (t390 < 0) = false := decide_eq_false c4
  clear c4
  obtain rfl := Option.some.inj H
  go_enter Try.func12, Try.ntmps12
  go_wp2_with (first | ((with_reducible refine gate_dst (N := 2) rfl ?_); refine be 2 #[.slice A0_0 l0_0.length c0_0] 26 ?_; intro gb389 hg w8 hbox hb; have _ := bs hb; have _ := ra (hbox); have _ := bz (w0 := w) hg; have _ := bz (w0 := w) hg; clear HB; rename_i HB BK389 GW389 GE389; clear hb hbox hg; obtain ⟨hcz9_0, hfz9_0⟩ := zc1 BK389) | ((with_reducible refine gate_callee (f := 26) rfl ?_); refine gl (some 8) Try.func26 #[.slice A0_0 l0_0.length c0_0, .int .i64 a1] ?_; (with_reducible refine (laws_heldProbeCellS.calls k _ _ l0_0 a1 t390 _ ?side1 ?side2 A3.out).mono ?_); (case side1 => exact sc HR0_0); (case side2 => exact HC0_0.out); rintro e w10 ⟨rfl, hb⟩; refine ⟨_, rfl, ?_⟩; have _ := bb (bk BK389) hb; have _ := bs hb; clear BK389 HB; rename_i BK389 HB; (try clear hb); (try clear hb2); (try clear hk); (try clear hi)))
  go_ret
  exact ⟨re, bq⟩
end Go.Proofs.Ytgklmafdbgnohaa.PA
end
section
namespace Go.Proofs.Ytgklmafdbgnohaa.Lk
open Go.RowKit Go.Proofs.YtgklmafdbgnohaaW.PrintWords Go.Proofs.YtgklmafdbgnohaaW.PrintLast Go.Proofs.YtgklmafdbgnohaaW.PrintMore Go.Proofs.Ytgklmafdbgnohaa.Z Go.Proofs.Ytgklmafdbgnohaa.PA
set_option linter.unusedVariables false
set_option linter.unusedSimpArgs false
theorem ifT {b : Bool} {X : Option Bool} (h : (if b = true then X else some false) = some true) : b = true ∧ X = some true := by
  cases b with
  | true => exact ⟨rfl, by simpa using h⟩
  | false => simp at h
theorem ifF {p : Prop} [Decidable p] {X : Option Bool} (h : (if p then some false else X) = some true) : ¬ p ∧ X = some true := by
  by_cases c : p
  · rw [if_pos c] at h; cases h
  · rw [if_neg c] at h; exact ⟨c, h⟩
theorem ifE {p : Prop} [Decidable p] {X : Option Bool} (h : (if p then X else some false) = some true) : p ∧ X = some true := by
  by_cases c : p
  · rw [if_pos c] at h; exact ⟨c, h⟩
  · rw [if_neg c] at h; cases h
abbrev In (a b : Nat) (k : Nat) : Prop := a ≤ k ∧ k < b
section
variable {w W W' : World}
structure LC (w : World) (g4 : Nat) (v18 : Value) (I : List S56) (m : Nat) (v20 : Value) (L : List S42) (n g6 : Nat) (v22 : Value) (J : List S56) (W : World) : Prop where
  bl : Below w.heap.size w W
  x : Kd.S k56 56 W w.heap.size (In w.heap.size g4) v18 I
  b4 : W.heap[g4]? = some (.cells #[v18] 26 (0, 0))
  t : Kd.S k42 42 W w.heap.size (In m n) v20 L
  y : Kd.S k56 56 W w.heap.size (In n g6) v22 J
  b6 : W.heap[g6]? = some (.cells #[v22] 26 (0, 0))
  o1 : w.heap.size ≤ g4
  o2 : g4 < m
  o3 : m ≤ n
  o4 : n ≤ g6
theorem LC.below {g4 m n g6 : Nat} {v18 v20 v22 : Value} {I J : List S56} {L : List S42} (h : LC w g4 v18 I m v20 L n g6 v22 J W) (hb : Below W.heap.size W W') : LC w g4 v18 I m v20 L n g6 v22 J W' :=
  ⟨below_step h.bl hb, Kd.S_below h.x hb, blk_below h.b4 hb, Kd.S_below h.t hb, Kd.S_below h.y hb, blk_below h.b6 hb, h.o1, h.o2, h.o3, h.o4⟩
theorem LC.tubes {g4 m n g6 : Nat} {v18 v20 v22 : Value} {I J : List S56} {L L' : List S42} (h : LC w g4 v18 I m v20 L n g6 v22 J W) (hb : Below w.heap.size w W') (hk : Kept W W' (In m n)) (ht : Kd.S k42 42 W' w.heap.size (In m n) v20 L') : LC w g4 v18 I m v20 L' n g6 v22 J W' :=
  have o1 := h.o1; have o2 := h.o2; have o3 := h.o3; have o4 := h.o4
  ⟨hb, Kd.S_kept h.x hk (fun k h1 h2 => by unfold In at h1 h2; omega), blk_kept h.b4 hk (fun h2 => by unfold In at h2; omega), ht, Kd.S_kept h.y hk (fun k h1 h2 => by unfold In at h1 h2; omega), blk_kept h.b6 hk (fun h2 => by unfold In at h2; omega), h.o1, h.o2, h.o3, h.o4⟩
structure LD (w : World) (g4 : Nat) (v18 : Value) (I : List S56) (g6 : Nat) (v22 : Value) (J : List S56) (W : World) : Prop where
  bl : Below w.heap.size w W
  x : Kd.S k56 56 W w.heap.size (fun _ => True) v18 I
  b4 : W.heap[g4]? = some (.cells #[v18] 26 (0, 0))
  y : Kd.S k56 56 W w.heap.size (fun _ => True) v22 J
  b6 : W.heap[g6]? = some (.cells #[v22] 26 (0, 0))
theorem LD.below {g4 g6 : Nat} {v18 v22 : Value} {I J : List S56} (h : LD w g4 v18 I g6 v22 J W) (hb : Below W.heap.size W W') : LD w g4 v18 I g6 v22 J W' :=
  ⟨below_step h.bl hb, Kd.S_below h.x hb, blk_below h.b4 hb, Kd.S_below h.y hb, blk_below h.b6 hb⟩
theorem LC.index {g4 m n g6 : Nat} {v18 v20 v22 : Value} {I J J' : List S56} {L : List S42} (h : LC w g4 v18 I m v20 L n g6 v22 J W) (hb : Below w.heap.size w W') (hk : Kept W W' (In n g6)) (ht : Kd.S k56 56 W' w.heap.size (fun k => In n g6 k ∨ W.heap.size ≤ k) v22 J') : LD w g4 v18 I g6 v22 J' W' :=
  have o1 := h.o1; have o2 := h.o2; have o3 := h.o3; have o4 := h.o4
  ⟨hb, Kd.S_mono (Kd.S_kept h.x hk (fun k h1 h2 => by unfold In at h1 h2; omega)) (fun _ _ => trivial), blk_kept h.b4 hk (fun h2 => by unfold In at h2; omega), Kd.S_mono ht (fun _ _ => trivial), blk_kept h.b6 hk (fun h2 => by unfold In at h2; omega)⟩
theorem S_in {α : Type} {d : Kd α} {e base hi : Nat} {v : Value} {xs : List α} (h : Kd.S d e W base (fun _ => True) v xs) (hl : w.heap.size ≤ base) (hh : W.heap.size ≤ hi) : Kd.S d e W w.heap.size (In base hi) v xs :=
  Kd.S_lower (Kd.S_mono (Kd.S_bound h) fun k hk => ⟨hk.2.1, Nat.lt_of_lt_of_le hk.2.2.1 hh⟩) hl
theorem S_in0 {α : Type} {d : Kd α} {e hi : Nat} {v : Value} {xs : List α} (h : Kd.S d e W w.heap.size (fun _ => True) v xs) (hh : W.heap.size ≤ hi) : Kd.S d e W w.heap.size (In w.heap.size hi) v xs := S_in h (Nat.le_refl _) hh
end
end Go.Proofs.Ytgklmafdbgnohaa.Lk
namespace Go.Proofs.Ytgklmafdbgnohaa.PA
open Go.RowKit Go.Proofs.YtgklmafdbgnohaaW.PrintWords Go.Proofs.YtgklmafdbgnohaaW.PrintLast Go.Proofs.YtgklmafdbgnohaaW.PrintMore Go.Proofs.Ytgklmafdbgnohaa.Z Go.Proofs.Ytgklmafdbgnohaa.Lk
set_option linter.unusedVariables false
set_option linter.unusedSimpArgs false
set_option maxHeartbeats 8000000 in
set_option maxRecDepth 100000 in
theorem laws_FnExactProbeIndexOf.calls (k : Nat) (A0 : Option Addr) (c0 : Nat) (l0 : List (S38)) (w : World) (hr0 : Kd.C k38 w A0 l0.length l0) (hc0 : l0.length ≤ c0) (h : laws_FnExactProbeIndexOf.f k l0 = some true) :
  Calls Try.prog 3 #[.slice A0 l0.length c0] w fun e w' => e = .returned (.bool true) ∧ Below w.heap.size w w' := by
 have hu26 := Try.underlying26
 have HR0 := Aside0.mk hr0
 have HC0 := Aside0.mk hc0
 clear hr0 hc0
 have H := h
 unfold laws_FnExactProbeIndexOf.f at H
 clear h
 obtain ⟨t391, A2, H1⟩ := bo H
 clear H
 by_cases c3 : t391 < 0
 · have c3b0 : decide (t391 < 0) = true := decide_eq_true c3
   clear c3 H1
   go_enter Try.func3, Try.ntmps3
   go_wp2_with (first | ((with_reducible refine gate_dst (N := 13) rfl ?_); refine gl (some 13) Try.func4 #[.slice A0 l0.length c0, .int .i64 1048576] ?_; (with_reducible refine (laws_szProbeTubeS.calls _ _ _ l0 1048576 t391 _ HR0.out HC0.out A2.out).mono ?_); rintro e wa ⟨rfl, hb⟩; refine ⟨_, rfl, ?_⟩; have Ka := ra hb; clear hb))
   go_ret
   exact ⟨re, Ka.out⟩
 · rw [if_neg c3] at H1
   have c3b0 : decide (t391 < 0) = false := decide_eq_false c3
   clear c3
   obtain ⟨t392, A5, H2⟩ := bo H1
   obtain ⟨t395, A6, H3⟩ := bo H2
   obtain ⟨t399, A7, H4⟩ := bo H3
   obtain ⟨t402, A8, H5⟩ := bo H4
   obtain ⟨t406, A9, H6⟩ := bo H5
   obtain ⟨h6, H7⟩ := ifT H6
   obtain ⟨t407, A10, H8⟩ := bo H7
   obtain ⟨t410, A11, H9⟩ := bo H8
   obtain ⟨h9, H10⟩ := ifT H9
   obtain ⟨⟨m1, L1⟩, A12, H11⟩ := bo H10
   have hm1 : ¬ m1 < 0 := fun e => by
    rw [if_pos e] at H11
    cases k with
    | zero => simp [laws_FnExactProbeIndexOf.j0] at H11
    | succ k => simp [laws_FnExactProbeIndexOf.j0] at H11
   rw [if_neg hm1] at H11
   obtain ⟨t413, A13, H12⟩ := bo H11
   clear H1 H2 H3 H4 H5 H6 H7 H8 H9 H10 H11
   cases k with
   | zero => simp [laws_FnExactProbeIndexOf.j0] at H12
   | succ k =>
   unfold laws_FnExactProbeIndexOf.j0 at H12
   obtain ⟨h13, H13⟩ := ifF H12
   have h13 : t413 = true := by cases t413 <;> simp at h13 ⊢
   obtain ⟨⟨m2, J1⟩, A14, H14⟩ := bo H13
   obtain ⟨t416, A15, H15⟩ := bo H14
   obtain ⟨h16, H16⟩ := ifF H15
   obtain ⟨e16, H17⟩ := ifE H16
   obtain ⟨t417, A16, H18⟩ := bo H17
   obtain ⟨t420, A17, H19⟩ := bo H18
   obtain ⟨t424, A18, H20⟩ := bo H19
   obtain ⟨h24, H21⟩ := ifT H20
   obtain ⟨t425, A19, H22⟩ := bo H21
   obtain ⟨h19, H23⟩ := ifF H22
   obtain ⟨e19, H24⟩ := ifE H23
   clear H12 H13 H14 H15 H16 H17 H18 H19 H20 H21 H22 H23 H24 h19
   have e16 : t416 = m2 := e16
   have e19 : t425 = m2 := e19
   rw [e16] at A15 h16
   rw [e19] at A19
   rw [h6] at A9
   rw [h9] at A11
   rw [h13] at A13
   rw [h24] at A18
   clear e16 e19 h6 h9 h13 h24
   have d1 : decide (m1 < 0) = false := decide_eq_false hm1
   have d2 : decide (m2 < 0) = false := decide_eq_false h16
   clear hm1 h16
   generalize hkk : k + 1 = kk at *
   clear hkk
   go_enter Try.func3, Try.ntmps3
   go_upto_region 8 with (first
     | ((with_reducible refine gate_dst (N := 13) rfl ?_); refine gl (some 13) Try.func4 #[.slice A0 l0.length c0, .int .i64 1048576] ?_; (with_reducible refine (laws_szProbeTubeS.calls _ _ _ l0 1048576 t391 _ HR0.out HC0.out A2.out).mono ?_); rintro e wa ⟨rfl, hb⟩; refine ⟨_, rfl, ?_⟩; have Ka := ra hb; clear hb)
     | ((with_reducible refine gate_dst (N := 17) rfl ?_); refine gl (some 17) Try.func6 #[.slice A0 l0.length c0] ?_; (with_reducible refine (laws_toProbeTubeS.calls _ _ _ l0 t392 _ (Kd.C_below HR0.out Ka.out) HC0.out A5.out).mono ?_); rintro e wb ⟨v17, rfl, ho, hb⟩; refine ⟨_, rfl, ?_⟩; have Kb := ra (below_step Ka.out hb); obtain ⟨D17, c17, e_⟩ := Kd.S_slice ho; subst e_; have T17 := ra ho; clear hb ho Ka)
     | ((with_reducible refine gate_dst (N := 18) rfl ?_); refine gl (some 18) Try.func5 #[.slice D17 t392.length c17] ?_; (with_reducible refine (spec_ProbeIndexOf.calls _ _ _ t392 t395 _ (Kd.S_reads' T17.out).2.2 (Kd.S_reads' T17.out).2.1 A6.out).mono ?_); rintro e wc ⟨v18, rfl, ho, hb⟩; refine ⟨_, rfl, ?_⟩; have Kc := ra (below_step Kb.out hb); obtain ⟨D18, c18, e_⟩ := Kd.S_slice ho; subst e_; have X18 := ra (Kd.S_lower ho (below_size Kb.out)); clear hb ho Kb T17)
     | ((with_reducible refine gate_dst (N := 4) rfl ?_); refine be 4 #[.slice none 0 0] 26 ?_; intro g4 hg4 wd h4 hb; have D4 := ra hb; have B4 := ra h4; have G4 := ra (Nat.le_of_eq hg4.symm); clear hb h4 hg4; obtain ⟨z4, z4f⟩ := zc1 B4)
     | ((with_reducible refine gate_dst (N := 20) rfl ?_); (have D5 := ra (below_set (j := 0) (v := .slice D18 t395.length c18) D4.out G4.out)); (have B5 : Aside0 ((wd.setCell ⟨g4, 0, none⟩ (.slice D18 t395.length c18)).heap[g4]? = some (.cells #[.slice D18 t395.length c18] 26 (0, 0))) := ⟨Z.bp B4⟩); (have K5 := ra (below_step Kc.out D5.out)); (have X5 := ra (Kd.S_below (S_in0 X18.out G4.out) D5.out)); (have O1 := ra (Nat.le_trans (below_size Kc.out) G4.out)); generalize wd.setCell ⟨g4, 0, none⟩ (.slice D18 t395.length c18) = we at D5 B5 K5 X5 ⊢; clear z4 z4f; refine gl (some 20) Try.func6 #[.slice A0 l0.length c0] ?_; (with_reducible refine (laws_toProbeTubeS.calls _ _ _ l0 t399 _ (Kd.C_below HR0.out K5.out) HC0.out A7.out).mono ?_); rintro e wf ⟨v20, rfl, ho, hb⟩; refine ⟨_, rfl, ?_⟩; have K6 := ra (below_step K5.out hb); obtain ⟨D20, c20, e_⟩ := Kd.S_slice ho; subst e_; have T20 := ra ho; have X6 := ra (Kd.S_below X5.out hb); have B6 := ra (blk_below B5.out hb); have O2 := ra (blk_lt B5.out); have O3 := ra (below_size (Below.refl we.heap.size we)); have KF := ra hb.size; have OW := ra (below_size K5.out); clear hb ho D4 D5 B4 B5 K5 X5 X18 Kc G4)
     | ((with_reducible refine gate_dst (N := 22) rfl ?_); refine gl (some 22) Try.func7 #[.slice D20 t399.length c20] ?_; (with_reducible refine (impl_ProbeIndexOf.calls _ _ _ t399 t402 _ (Kd.S_reads' T20.out).2.2 (Kd.S_reads' T20.out).2.1 A8.out).mono ?_); rintro e wg ⟨v22, rfl, ho, hb⟩; refine ⟨_, rfl, ?_⟩; have K7 := ra (below_step K6.out hb); obtain ⟨D22, c22, e_⟩ := Kd.S_slice ho; subst e_; have Y22 := ra ho; have X7 := ra (Kd.S_below X6.out hb); have B7 := ra (blk_below B6.out hb); have KG := ra hb.size; have T21 := ra (Kd.S_below (S_in (w := w) T20.out OW.out (Nat.le_refl _)) hb); have OF := ra (below_size K6.out); clear hb ho K6 X6 B6 T20)
     | ((with_reducible refine gate_dst (N := 6) rfl ?_); refine be 6 #[.slice none 0 0] 26 ?_; intro g6 hg6 wh h6 hb; have D6 := ra hb; have C6 := ra h6; have G6 := ra (Nat.le_of_eq hg6.symm); clear hb h6 hg6; obtain ⟨z6, z6f⟩ := zc1 C6))
   have HLC : Aside0 (LC w g4 (.slice D18 t395.length c18) t395 we.heap.size (.slice D20 t399.length c20) t399 wf.heap.size g6 (.slice D22 t402.length c22) t402 (wh.setCell ⟨g6, 0, none⟩ (.slice D22 t402.length c22))) := by
    have D7 : Below wg.heap.size wg (wh.setCell ⟨g6, 0, none⟩ (.slice D22 t402.length c22)) := below_set D6.out G6.out
    exact ⟨⟨below_step K7.out D7, Kd.S_below X7.out D7, blk_below B7.out D7, Kd.S_below T21.out D7, Kd.S_below (S_in Y22.out OF.out G6.out) D7, Z.bp C6, O1.out, O2.out, KF.out, Nat.le_trans KG.out G6.out⟩⟩
   generalize wh.setCell ⟨g6, 0, none⟩ (.slice D22 t402.length c22) = wi at HLC ⊢
   clear K7 Y22 X7 B7 T21 OF D6 C6 G6 O1 O2 O3 KF OW KG z6 z6f
   generalize we.heap.size = m at HLC
   generalize wf.heap.size = n at HLC
   obtain ⟨z4, _⟩ := zc1 (ra HLC.out.b4)
   obtain ⟨z6, _⟩ := zc1 (ra HLC.out.b6)
   go_upto_region 25 with (first
     | ((with_reducible refine gate_dst (N := 25) rfl ?_); refine gl (some 25) Try.func8 #[.agg #[.slice D22 t402.length c22], .agg #[.slice D18 t395.length c18]] ?_; (with_reducible refine (laws_eqProbeIndex.calls _ _ _ t402 _ _ t395 true _ (Kd.S_reads' HLC.out.y).2.2 (Kd.S_reads' HLC.out.y).2.1 (Kd.S_reads' HLC.out.x).2.2 (Kd.S_reads' HLC.out.x).2.1 A9.out).mono ?_); rintro e wj ⟨rfl, hb⟩; refine ⟨_, rfl, ?_⟩; have _ := ra (HLC.out.below hb); clear HLC; rename_i HLC; clear hb; clear z4 z6; obtain ⟨z4, _⟩ := zc1 (ra HLC.out.b4); obtain ⟨z6, _⟩ := zc1 (ra HLC.out.b6))
     | ((with_reducible refine gate_dst (N := 29) rfl ?_); refine gl (some 29) Try.func6 #[.slice A0 l0.length c0] ?_; (with_reducible refine (laws_toProbeTubeS.calls _ _ _ l0 t407 _ (Kd.C_below HR0.out HLC.out.bl) HC0.out A10.out).mono ?_); rintro e wk ⟨v29, rfl, ho, hb⟩; refine ⟨_, rfl, ?_⟩; have _ := ra (HLC.out.below hb); clear HLC; rename_i HLC; obtain ⟨D29, c29, e_⟩ := Kd.S_slice ho; subst e_; have T29 := ra ho; clear hb ho; clear z4 z6; obtain ⟨z4, _⟩ := zc1 (ra HLC.out.b4); obtain ⟨z6, _⟩ := zc1 (ra HLC.out.b6))
     | ((with_reducible refine gate_dst (N := 30) rfl ?_); refine gl (some 30) Try.func9 #[.slice D20 t399.length c20, .slice D29 t407.length c29] ?_; (with_reducible refine (laws_eqProbeTubeS.calls _ _ _ t399 _ _ t407 true _ (Kd.S_reads' HLC.out.t).2.2 (Kd.S_reads' HLC.out.t).2.1 (Kd.S_reads' T29.out).2.2 (Kd.S_reads' T29.out).2.1 A11.out).mono ?_); rintro e wk2 ⟨rfl, hb⟩; refine ⟨_, rfl, ?_⟩; have _ := ra (HLC.out.below hb); clear HLC; rename_i HLC; clear hb T29; clear z4 z6; obtain ⟨z4, _⟩ := zc1 (ra HLC.out.b4); obtain ⟨z6, _⟩ := zc1 (ra HLC.out.b6))
     | ((with_reducible refine gate_dst (N := 34) rfl ?_); refine gl (some 34) Try.func10 #[.slice D20 t399.length c20, .int .i64 1] ?_; (with_reducible refine (laws_markProbeTubeS.calls _ (In m n) (.slice D20 t399.length c20) t399 1 m1 L1 w _ HLC.out.bl HLC.out.t A12.out).mono ?_); rintro e wl ⟨rfl, ht, hbl, hk⟩; refine ⟨_, rfl, ?_⟩; have _ := ra (HLC.out.tubes hbl hk ht); clear HLC; rename_i HLC; clear ht hbl hk; clear z4 z6; obtain ⟨z4, _⟩ := zc1 (ra HLC.out.b4); obtain ⟨z6, _⟩ := zc1 (ra HLC.out.b6))
     | ((with_reducible refine (laws_eqProbeIndex.calls _ _ _ t402 _ _ t395 true _ (Kd.S_reads' HLC.out.y).2.2 (Kd.S_reads' HLC.out.y).2.1 (Kd.S_reads' HLC.out.x).2.2 (Kd.S_reads' HLC.out.x).2.1 A13.out).mono ?_); rintro e wj2 ⟨rfl, hb⟩; have _ := ra (HLC.out.below hb); clear HLC; rename_i HLC; clear hb; clear z4 z6; obtain ⟨z4, _⟩ := zc1 (ra HLC.out.b4); obtain ⟨z6, _⟩ := zc1 (ra HLC.out.b6))
     | ((with_reducible refine gate_dst (N := 45) rfl ?_); refine gl (some 45) Try.func11 #[.agg #[.slice D22 t402.length c22], .int .i64 1] ?_; (with_reducible refine (laws_markProbeIndex.calls _ (In n g6) (.slice D22 t402.length c22) t402 1 m2 J1 w _ HLC.out.bl HLC.out.y A14.out).mono ?_); rintro e wm ⟨rfl, ht, hbl, hk⟩; refine ⟨_, rfl, ?_⟩; have HLD := ra (HLC.out.index hbl hk ht); clear HLC ht hbl hk; have HE := ra (Kd.S_reads' HLD.out.y).1; clear z4 z6; obtain ⟨z4, _⟩ := zc1 (ra HLD.out.b4); obtain ⟨z6, _⟩ := zc1 (ra HLD.out.b6))
     | ((with_reducible refine gate_dst (N := 48) rfl ?_); refine gl (some 48) Try.func12 #[.agg #[.slice D22 t402.length c22], .int .i64 1] ?_; rw [HE.out]; (with_reducible refine (laws_heldProbeIndex.calls _ _ _ J1 1 m2 _ (Kd.S_reads' HLD.out.y).2.2 (by have h_ := (Kd.S_reads' HLD.out.y).2.1; rwa [HE.out] at h_) A15.out).mono ?_); rintro e wn1 ⟨rfl, hb⟩; refine ⟨_, rfl, ?_⟩; have _ := ra (HLD.out.below hb); clear HLD; rename_i HLD; clear hb; clear z4 z6; obtain ⟨z4, _⟩ := zc1 (ra HLD.out.b4); obtain ⟨z6, _⟩ := zc1 (ra HLD.out.b6))
     | ((with_reducible refine gate_dst (N := 55) rfl ?_); refine gl (some 55) Try.func6 #[.slice A0 l0.length c0] ?_; (with_reducible refine (laws_toProbeTubeS.calls _ _ _ l0 t417 _ (Kd.C_below HR0.out HLD.out.bl) HC0.out A16.out).mono ?_); rintro e wo ⟨v55, rfl, ho, hb⟩; refine ⟨_, rfl, ?_⟩; have _ := ra (HLD.out.below hb); clear HLD; rename_i HLD; obtain ⟨D55, c55, e_⟩ := Kd.S_slice ho; subst e_; have T55 := ra ho; clear hb ho; clear z4 z6; obtain ⟨z4, _⟩ := zc1 (ra HLD.out.b4); obtain ⟨z6, _⟩ := zc1 (ra HLD.out.b6))
     | ((with_reducible refine gate_dst (N := 56) rfl ?_); refine gl (some 56) Try.func7 #[.slice D55 t417.length c55] ?_; (with_reducible refine (impl_ProbeIndexOf.calls _ _ _ t417 t420 _ (Kd.S_reads' T55.out).2.2 (Kd.S_reads' T55.out).2.1 A17.out).mono ?_); rintro e wp ⟨v56, rfl, ho, hb⟩; refine ⟨_, rfl, ?_⟩; have _ := ra (HLD.out.below hb); clear HLD; rename_i HLD; obtain ⟨D56, c56, e_⟩ := Kd.S_slice ho; subst e_; have Y56 := ra ho; clear hb ho T55; clear z4 z6; obtain ⟨z4, _⟩ := zc1 (ra HLD.out.b4); obtain ⟨z6, _⟩ := zc1 (ra HLD.out.b6))
     | ((with_reducible refine gate_dst (N := 10) rfl ?_); refine be 10 #[.slice none 0 0] 26 ?_; intro g10 hg10 wq h10 hb; have D10 := ra hb; have C10 := ra h10; have G10 := ra (Nat.le_of_eq hg10.symm); clear hb h10 hg10; obtain ⟨z10, z10f⟩ := zc1 C10))
   have D11 : Below wp.heap.size wp (wq.setCell ⟨g10, 0, none⟩ (.slice D56 t420.length c56)) := below_set D10.out G10.out
   have C11 : Aside0 ((wq.setCell ⟨g10, 0, none⟩ (.slice D56 t420.length c56)).heap[g10]? = some (.cells #[.slice D56 t420.length c56] 26 (0, 0))) := ⟨Z.bp C10⟩
   have HL2 := ra (HLD.out.below D11)
   have Y57 := ra (Kd.S_below Y56.out D11)
   clear HLD Y56 D11 D10 C10 G10 z4 z6 z10 z10f
   have HLD := HL2
   clear HL2
   generalize wq.setCell ⟨g10, 0, none⟩ (.slice D56 t420.length c56) = wr0 at HLD Y57 C11 ⊢
   obtain ⟨z4, _⟩ := zc1 (ra HLD.out.b4)
   obtain ⟨z6, _⟩ := zc1 (ra HLD.out.b6)
   obtain ⟨z10, _⟩ := zc1 C11
   go_wp2_with (first
     | ((with_reducible refine gate_dst (N := 59) rfl ?_); refine gl (some 59) Try.func8 #[.agg #[.slice D56 t420.length c56], .agg #[.slice D18 t395.length c18]] ?_; (with_reducible refine (laws_eqProbeIndex.calls _ _ _ t420 _ _ t395 true _ (Kd.S_reads' Y57.out).2.2 (Kd.S_reads' Y57.out).2.1 (Kd.S_reads' HLD.out.x).2.2 (Kd.S_reads' HLD.out.x).2.1 A18.out).mono ?_); rintro e wr ⟨rfl, hb⟩; refine ⟨_, rfl, ?_⟩; have _ := ra (HLD.out.below hb); clear HLD; rename_i HLD; clear hb Y57 C11 z10; clear z4 z6; obtain ⟨z4, _⟩ := zc1 (ra HLD.out.b4); obtain ⟨z6, _⟩ := zc1 (ra HLD.out.b6))
     | ((with_reducible refine gate_dst (N := 63) rfl ?_); refine gl (some 63) Try.func12 #[.agg #[.slice D22 t402.length c22], .int .i64 1] ?_; rw [HE.out]; (with_reducible refine (laws_heldProbeIndex.calls _ _ _ J1 1 m2 _ (Kd.S_reads' HLD.out.y).2.2 (by have h_ := (Kd.S_reads' HLD.out.y).2.1; rwa [HE.out] at h_) A19.out).mono ?_); rintro e wn2 ⟨rfl, hb⟩; refine ⟨_, rfl, ?_⟩; have _ := ra (HLD.out.below hb); clear HLD; rename_i HLD; clear hb; clear z4 z6; obtain ⟨z4, _⟩ := zc1 (ra HLD.out.b4); obtain ⟨z6, _⟩ := zc1 (ra HLD.out.b6)))
   go_ret
   exact ⟨re, HLD.out.bl⟩
end Go.Proofs.Ytgklmafdbgnohaa.PA
end
