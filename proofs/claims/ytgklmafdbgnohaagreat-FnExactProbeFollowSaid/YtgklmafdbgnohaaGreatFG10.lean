/- Contracts of the program's and the reference's functions (they began as prints of the kit's tool; shortened and joined). No condition beside what the Lean functions say. -/
import Derived.Test.YtgklmafdbgnohaaGreatFPAd4
import Derived.Test.YtgklmafdbgnohaaGreatFZCx5
import Derived.Test.YtgklmafdbgnohaaGreatFZCv8
import Derived.Test.YtgklmafdbgnohaaGreatFZCm7
import Derived.Test.YtgklmafdbgnohaaGreatFZCy6
import Derived.Test.YtgklmafdbgnohaaGreatFG9
namespace Go.Proofs.YtgklmafdbgnohaaGreat.PA
open Go.RowKit Go.Proofs.YtgklmafdbgnohaaGreatW.PrintWords Go.Proofs.YtgklmafdbgnohaaGreatW.PrintLast Go.Proofs.YtgklmafdbgnohaaGreatW.PrintMore Go.Proofs.YtgklmafdbgnohaaGreat.Z
attribute [local go_sem] max2_int min2_int max_two min_two max_three min_three max_four min_four
set_option linter.unusedVariables false
set_option maxHeartbeats 8000000
set_option maxRecDepth 100000
set_option linter.unusedSimpArgs false
def spec_l2Copy.T1 : Bool × List (List Nat × List Nat) := (true, [([], []), ([0], [0]), ([], []), ([], []), ([3], [3]), ([2, 4], [2, 4]), ([1, 5], [1, 5]), ([6, 5, 0, 1, 2, 3, 4, 5, 6], [6])])
def spec_l2Copy.B1 : List Nat := [0, 1, 0, 0, 8, 28, 63, 127]
theorem spec_l2Copy.tab1 : rtab .any (opsOf Tryz.f77 1) = spec_l2Copy.T1 := by kernel_rfl
theorem spec_l2Copy.bits1 : waitsOk spec_l2Copy.T1.2 spec_l2Copy.B1 = true := by kernel_rfl
theorem spec_l2Copy.calls (a0_0 : ByteArray) (A0_1 : Option Addr) (c0_1 : Nat) (l0_1 : List (S75)) (r1 : ByteArray) (r2 : List (S75)) (w : World) (hr0_1 : Kd.C k75 w A0_1 l0_1.length l0_1) (hc0_1 : l0_1.length ≤ c0_1) (h : spec_l2Copy.f a0_0 l0_1 = some (r1, r2)) :
  Calls Tryz.prog 77 #[.agg #[.string a0_0, .slice A0_1 l0_1.length c0_1]] w fun e w' => ∃ v1_ : Value, e = .returned (.agg #[.string r1, v1_]) ∧ Kd.R k75 75 w' w.heap.size (fun _ => True) v1_ r2 ∧ Below w.heap.size w w' := by
 have Z0 := Tryz.underlying32
 have Z1 := ra hr0_1
 have Z2 := ra hc0_1
 clear hr0_1 hc0_1
 have HB := ra (Below.refl w.heap.size w)
 have H := h; unfold spec_l2Copy.f at H
 clear h
 obtain ⟨Z3, hy_⟩ : ∃ y_ : List (S75), y_ = (([] : List (S75))) := ⟨_, rfl⟩
 replace H : (if Z3.length + l0_1.length < 2932031007402 then (some (a0_0, (Z3 ++ l0_1))) else (none)) = some (r1, r2) := yh
 have Z4 := ra hy_
 clear hy_
 by_cases Z5 : Z3.length + l0_1.length < 2932031007402
 ·rw [if_pos Z5] at H
  have Z6 := ra Z5; clear Z5
  obtain ⟨Z7, hy_⟩ : ∃ y_ : List (S75), y_ = (Z3 ++ l0_1) := ⟨_, rfl⟩
  replace H : (some (a0_0, Z7)) = some (r1, r2) := yh
  have Z8 := ra hy_
  clear hy_
  simp only [Option.some.injEq, Prod.mk.injEq] at H
  obtain ⟨rfl, rfl⟩ := H
  go_enter Tryz.func77, Tryz.ntmps77
  try go_wp2_with (first | ((with_reducible refine gd 1 rfl ?_); refine bd 1 #[.string a0_0, .slice A0_1 l0_1.length c0_1] 32 ?_; intro Z9 Z10 HB Z11 Z12) | ((with_reducible refine gd 2 rfl ?_); refine bf 2 #[.string (⟨#[]⟩ : ByteArray), .slice none 0 0] 32 ?_; intro Z13 Z14 hg hb HB Z15 Z16; have Z17 := bn hg (bk Z11); have Z18 := bm hg (bk Z11); replace Z11 := bb (bk Z11) hb; clear hg hb))
  have _ := ra (blk_drew Z11.out)
  have _ := ra (blk_drew Z15.out)
  have _ := ra (below_drew1 HB.out)
  clear Z11 Z15 HB
  rename_i Z11 Z15 HB
  refine start_ (n := 8) (S := fun w' => w'.cell? ⟨Z9, 0, none⟩ = some (.string a0_0) ∧ w'.cell? ⟨Z9, 1, none⟩ = some (.slice A0_1 l0_1.length c0_1)) (ds := []) (bl 8 0) (by kernel_rfl) rfl rfl ⟨(blk_cell Z11.out 0).trans rfl, (blk_cell Z11.out 1).trans rfl⟩ (fun hHeld => ?_); refine with_tabW spec_l2Copy.tab1 spec_l2Copy.bits1 (fun HT_ HW_ => ?_)
  generalize Z14.drew = Z19 at Z11 Z15 HB hHeld ⊢
  refine pu 0 3 (bl 8 1) ?_
  refine pu 3 6 (bl 8 9) ?_
  refine tk 1 4 (bl 8 11) ?_ hHeld
  refine tk 4 7 (bl 8 27) ?_ hHeld
  refine oe 2 5 (bl 8 31) (fun K hK => ?_)
  refine Kd.R_lit_step k75 _ 75 ?hg (N := 5) ?hd (xs := ([] : List (S75))) (inner := []) (ok := fun _ => True) (okp := fun _ => True) ?hr ?hp (fun _ hk => hk) trivial (Below.refl _ _) (Nat.le_refl _) (by simp) ?_; (case hd => rfl); (case hg => rfl); (case hr => first | (go_simp; done) | (go_simp; rfl)); (case hp => exact (Reps.none _ _))
  intro Z20 Z21 Z22 hb hg_ hnew_
  clear hg_ hnew_
  (first | rw [← Z4.out] at Z22 | (simp only [Int.reduceToNat] at Z22; rw [← Z4.out] at Z22))
  have _ := ra (Kd.R_lower Z22 (below_size bq))
  have _ := bb (bk Z11) hb
  have _ := bb (bk Z15) hb
  have _ := bs hb
  clear Z11 Z15 HB
  rename_i Z23 Z11 Z15 HB
  clear hb Z22
  refine hK.out _ _ ⟨(blk_cell Z11.out 0).trans rfl, (blk_cell Z11.out 1).trans rfl⟩ (fun hHeld => ?_)
  clear hK K
  refine nm 5 ?_
  refine oe 5 8 (bl 8 63) (fun K hK => ?_)
  refine Kd.R_append_rows_step k75 (w0 := w) w.heap.size (by rfl) (.tmp 5) (.tmp 7) 30 75 (.agg #[(.int .i64 0), (.int .i64 0), (.int .i64 0), (.int .i64 0), (.int .i64 0), (.int .i64 0)]) 48 rfl Tryz.underlying30 info75 rfl (by decide) (by omega) Z20 Z3 l0_1 _ _ _ (fun _ => True) (fun _ => False) rfl rfl ?aO ?aR (fun _ _ h => h) (fun _ h => h.elim) ?aF ?aB ?aS ?aL ?_
  (case aR => exact sc Z1)
  (case aB => exact bq)
  (case aF => exact (fun _ _ => trivial))
  (case aO => exact (rq Z23))
  (case aS => exact (below_size bq))
  (case aL => have := Z6.out; omega)
  intro Z24 Z25 ho hb hg hat
  rw [← Z8.out] at ho
  have _ := ra (blk_grown (g := Z9) (o := .cells #[.string a0_0, .slice A0_1 l0_1.length c0_1] 32 (0, 0)) (bk Z11) hg (Kd.R_ne Z23.out Z11.out (by decide)))
  have _ := ra (blk_grown (g := Z13) (o := .cells #[.string (⟨#[]⟩ : ByteArray), .slice none 0 0] 32 (0, 0)) (bk Z15) hg (Kd.R_ne Z23.out Z15.out (by decide)))
  have _ := ra (hb)
  have _ := ra (ho)
  clear Z11 Z15 HB Z23
  rename_i Z11 Z15 HB Z26
  clear ho hb hg hat
  obtain ⟨Z27, Z28, Z29⟩ := Kd.R_slice Z26.out
  (first | subst Z29 | (injection Z29 with f1_ f2_ f3_; have Z30 := f1_.symm; have Z31 := f3_.symm; clear f1_ f2_ f3_; subst Z30; subst Z31))
  refine hK.out _ _ ⟨(blk_cell Z11.out 0).trans rfl, (blk_cell Z11.out 1).trans rfl⟩ (fun hHeld => ?_)
  clear hK K
  refine nm 8 ?_
  refine pu 6 9 (bl 8 127) ?_
  refine one_ (i := 7) (N := none) #[true, true, true, true, true, true, true, true] rfl rfl (one_of HT_.out (by kernel_rfl)) (by decide) (fun K hK => ?_)
  have Z32 : Z25.cell? ⟨Z13, 0, none⟩ = some (.string (⟨#[]⟩ : ByteArray)) := (blk_cell Z15.out 0).trans rfl
  have Z33 := blk_frozen Z15.out 0
  have Z34 := Z17.out
  have Z35 := Z18.out
  have Z36 : Z25.cell? ⟨Z13, 1, none⟩ = some (.slice none 0 0) := (blk_cell Z15.out 1).trans rfl
  have Z37 := blk_frozen Z15.out 1
  have Z38 := Z17.out
  have Z39 := Z18.out
  refine skip_ (w1 := ?_) (by rfl) rfl ?_ ?_
  rotate_left
  ·go_simp
   rfl
  refine hK.out _ _ ⟨cf hHeld.1, cf hHeld.2⟩ (fun hHeld => ?_)
  clear hK K
  refine done_ (done_of HT_.out (by kernel_rfl)) ?_
  try go_wp2
  refine bodyPost_ret (results_cell_row rfl _ _ Z13 32 #[.string a0_0, .slice Z27 Z7.length Z28] (0, 0) _ rfl (bp Z15) Tryz.underlying32 rfl (by kernel_rfl)) rfl ?_
  exact ⟨_, re, by (with_reducible repeat (first | apply Kd.R_alloc | apply Kd.R_drewN | apply Kd.R_drew)); exact Kd.R_mono (rf (Kd.R_types Z26.out Z15.out (by decide))) (fun _ hk => trivial), bq⟩
 ·rw [if_neg Z5] at H
  exact absurd H (by simp)
theorem spec_l2List.calls (k : Nat) (A0 : Option Addr) (c0 : Nat) (l0 r : List (S32)) (w : World) (hr0 : Kd.C k32 w A0 l0.length l0) (hc0 : l0.length ≤ c0) (h : spec_l2List.f k l0 = some r) :
  Calls Tryz.prog 46 #[.slice A0 l0.length c0] w fun e w' => ∃ v0_ : Value, e = .returned (v0_) ∧ Kd.S k32 32 w' w.heap.size (fun _ => True) v0_ r ∧ Below w.heap.size w w' := by
 have Z0 := Tryz.underlying32
 have Z1 := ra hr0
 have Z2 := ra hc0
 clear hr0 hc0
 have HB := ra (Below.refl w.heap.size w)
 have H := h; unfold spec_l2List.f at H
 clear h
 obtain ⟨Z3, hy_⟩ : ∃ y_ : List (S32), y_ = (([] : List (S32))) := ⟨_, rfl⟩
 replace H : (spec_l2List.l0 k l0 Z3 0) = some r := yh
 have Z4 := ra hy_
 clear hy_
 have H' := ra H; clear H
 go_enter Tryz.func46, Tryz.ntmps46
 go_wp2_with (first | ((with_reducible refine gd 5 rfl ?_); refine Kd.S_lit k32 _ 32 ?hg (N := 5) ?hd (xs := ([] : List (S32))) (inner := []) (ok := fun _ => True) (okp := fun _ => True) ?hr ?hp (fun _ hk => hk) trivial (Below.refl _ _) (Nat.le_refl _) (by simp) ?_; (case hd => rfl); (case hg => rfl); (case hr => first | (go_simp; done) | (go_simp; rfl)); (case hp => exact (Reps.none _ _)); intro Z5 Z6 Z7 hb hg_ hnew_; clear hg_ hnew_; (first | rw [← Z4.out] at Z7 | (simp only [Int.reduceToNat] at Z7; rw [← Z4.out] at Z7)); have Z8 := ra (Kd.S_lower Z7 (below_size bq)); replace HB := bs hb; clear hb Z7))
 go_loopg [3, 4] k (fun kq v3 v4 w' => ∃ (x3_1 : List (S32)) (x4_1 : Int), v4 = .int .i64 x4_1 ∧ Aside0 (spec_l2List.l0 kq l0 x3_1 x4_1 = some r) ∧ Aside0 (kq ≤ k) ∧ Aside0 (Kd.S k32 32 w' w.heap.size (fun _ => True) v3 x3_1) ∧ Aside0 (Below w.heap.size w w'))
 case atStart => exact ⟨(Z3), (0), rs, H', ⟨Nat.le_refl _⟩, ⟨by (with_reducible repeat (first | apply Kd.S_alloc | apply Kd.S_drewN | apply Kd.S_drew)); exact Z8.out⟩, ⟨bq⟩⟩
 case round =>
  clear H'
  obtain ⟨Z9, Z10, rfl, HA, Z11, Z12, HB⟩ := hrel
  cases gk with
  | zero => exact absurd HA.out (by simp [spec_l2List.l0])
  | succ Z13 =>
   have H := HA.out
   clear HA
   simp only [spec_l2List.l0] at H
   rcases td H with ⟨Z14, H⟩ | ⟨Z14, H⟩
   ·obtain ⟨Z15, H⟩ := tn H
    obtain ⟨⟨Z16, Z17⟩, Z18, H⟩ := bo H
    try dsimp only at H
    by_cases Z19 : Z9.length < 3518437208883
    ·rw [if_pos Z19] at H
     have Z20 := ra Z19; clear Z19
     obtain ⟨Z21, hy_⟩ : ∃ y_ : List (S32), y_ = (Z9 ++ [(⟨Z16, Z17⟩ : S32)]) := ⟨_, rfl⟩
     replace H : (spec_l2List.l0 Z13 l0 Z21 (wrap64 (Z10 + 1))) = some r := yh
     have Z22 := ra hy_
     clear hy_
     have H' := ra H; clear H
     have Z23 : 0 ≤ (Z10 : Int) := od
     have Z24 : Z10 < (l0.length : Int) := od
     obtain ⟨Z25, Z26, Z27, Z28, Z29, Z30, Z31, Z32⟩ := at_T32 Z1.out Z10 Z23 Z24
     cases Z28
     replace Z29 := hc HB Z29
     replace Z30 := hc HB Z30
     have Z33 := ra Z32
     have Z34 := ra Z31
     clear Z32 Z31
     replace Z23 := eq_true Z23
     replace Z24 := eq_true Z24
     go_wp2_with (first | ((with_reducible refine gc 77 rfl ?_); refine gx (some 17) Tryz.func77 (spec_l2Copy.calls _ _ _ _ _ _ _ (sc Z33) Z34.out Z18.out) ?_; rintro Z35 Z36 ⟨Z37, hb⟩; have Z38 := ra (Kd.R_lower Z37 (below_size bq)); replace Z12 := ra (Kd.S_elder' (by (with_reducible repeat (first | apply Kd.S_alloc | apply Kd.S_drewN | apply Kd.S_drew)); exact Z12.out) (Kd.R_base Z37) hb); replace HB := bs hb; clear hb Z37; obtain ⟨Z39, Z40, Z41⟩ := Kd.R_slice Z38.out; subst Z41) | ((with_reducible refine gate_builtin (b := .append) (xs := #[.tmp 12, .tmp 18]) rfl ?_); at_builtin; refine Kd.S_append k32 (w0 := w) w.heap.size rfl (.tmp 12) (.tmp 18) 25 32 (.agg #[(.string ⟨#[]⟩), (.slice none 0 0)]) 40 rfl Tryz.underlying25 info32 rfl (by decide) (by omega) u3 Z9 (⟨Z16, Z17⟩ : S32) [.string Z16, .slice Z39 Z17.length Z40] (fun _ => True) (fun k_ => some k_ = (.slice Z39 Z17.length Z40 : Value).ownBlock) rfl rfl ?aP (fun k_ hk_ => ((Kd.R_mono (ok' := fun k_ => ((fun _ => True)) k_ ∧ some k_ ≠ (u3 : Value).ownBlock) (Kd.R_apart' (Z38.out) (Kd.S_typed Z12.out) (by decide)) (fun k_ hk => ⟨trivial, hk.2⟩))).1 k_ hk_.symm) ?aF ?aO ?aB ?aS ?aL ?_; (case aP => exact k32_mkM _ _ _ (⟨Z16, Z17⟩ : S32) (Kd.R_mono (Kd.R_tight rfl (Kd.R_mono (ok' := fun k_ => ((fun _ => True)) k_ ∧ some k_ ≠ (u3 : Value).ownBlock) (Kd.R_apart' (Z38.out) (Kd.S_typed Z12.out) (by decide)) (fun k_ hk => ⟨trivial, hk.2⟩))) (fun _ h_ => h_))); (case aB => exact bq); (case aF => exact (fun _ _ => trivial)); (case aO => exact (by (with_reducible repeat (first | apply Kd.S_alloc | apply Kd.S_drewN | apply Kd.S_drew)); exact Kd.S_mono Z12.out (fun k_ hk => ⟨trivial, fun e_ => hk.2 e_⟩))); (case aS => exact (below_size bq)); (case aL => have := Z20.out; omega); intro Z42 Z43 ho hb hg hat; rw [← Z22.out] at ho; have _ := ra (hb); have _ := ra (ho); clear HB Z12 Z38; rename_i HB Z44; clear ho hb hg hat))
     go_roundg Z13
     case measure => have := Z11.out; omega
     case rel => exact ⟨_, _, rs, H', ⟨by have := Z11.out; omega⟩, ⟨by (with_reducible repeat (first | apply Kd.S_alloc | apply Kd.S_drewN | apply Kd.S_drew)); exact Z44.out⟩, ⟨bq⟩⟩
    ·rw [if_neg Z19] at H
     exact absurd H (by simp)
   ·obtain rfl := Option.some.inj H
    go_wp2
    go_ret
    exact ⟨_, re, by (with_reducible repeat (first | apply Kd.S_alloc | apply Kd.S_drewN | apply Kd.S_drew)); exact Z12.out, bq⟩
theorem spec_l6At.calls (k : Nat) (A0 : Option Addr) (c0 : Nat) (l0 : List (S32)) (a1 : ByteArray) (r : Int) (w : World) (hr0 : Kd.C k32 w A0 l0.length l0) (hc0 : l0.length ≤ c0) (h : spec_l6At.f k l0 a1 = some r) :
  Calls Tryz.prog 47 #[.slice A0 l0.length c0, .string a1] w fun e w' => e = .returned (.int .i64 r) ∧ Drawn0 w w' := by
 have Z0 := ra hr0
 have Z1 := ra hc0
 clear hr0 hc0
 have H := h; unfold spec_l6At.f at H
 clear h
 have H' := ra H; clear H
 go_enter Tryz.func47, Tryz.ntmps47
 go_wp2
 go_loopg [5] k (fun kq v5 w' => ∃ (x5_1 : Int), v5 = .int .i64 x5_1 ∧ Aside0 (spec_l6At.l0 kq l0 a1 x5_1 = some r) ∧ Aside0 (kq ≤ k) ∧ Drawn0 w w')
 case atStart => exact ⟨(0), rs, H', ⟨Nat.le_refl _⟩, d0⟩
 case round =>
  clear H'
  obtain ⟨Z2, rfl, HA, Z3, ⟨Z4, rfl⟩⟩ := hrel
  cases gk with
  | zero => exact absurd HA.out (by simp [spec_l6At.l0])
  | succ Z5 =>
   have H := HA.out
   clear HA
   simp only [spec_l6At.l0] at H
   rcases td H with ⟨Z6, H⟩ | ⟨Z6, H⟩
   ·obtain ⟨Z7, H⟩ := tn H
    rcases ed H with ⟨-, Z8, Z9, H⟩ | ⟨Z10, Z8, Z9, H⟩
    ·obtain rfl := Option.some.inj H
     have Z11 : 0 ≤ (Z2 : Int) := od
     have Z12 : Z2 < (l0.length : Int) := od
     obtain ⟨Z13, Z14, Z15, Z16, Z17, Z18, Z19, Z20⟩ := at_T32 Z0.out Z2 Z11 Z12
     cases Z16
     have Z21 := ra Z20
     have Z22 := ra Z19
     clear Z20 Z19
     replace Z11 := eq_true Z11
     replace Z12 := eq_true Z12
     go_wp2
     go_ret
     exact ⟨rs, d0⟩
    ·have H' := ra H; clear H
     have Z11 : 0 ≤ (Z2 : Int) := od
     have Z12 : Z2 < (l0.length : Int) := od
     obtain ⟨Z13, Z14, Z15, Z16, Z17, Z18, Z19, Z20⟩ := at_T32 Z0.out Z2 Z11 Z12
     cases Z16
     have Z21 := ra Z20
     have Z22 := ra Z19
     clear Z20 Z19
     replace Z11 := eq_true Z11
     replace Z12 := eq_true Z12
     go_wp2
     go_roundg Z5
     case measure => have := Z3.out; omega
     case rel => exact ⟨_, rs, H', ⟨by have := Z3.out; omega⟩, d0⟩
   ·obtain rfl := Option.some.inj H
    go_wp2
    go_ret
    exact ⟨rs, d0⟩
theorem spec_ProbeHappen.calls (k : Nat) (P0_ : Nat → Prop) (A0 : Option Addr) (c0 : Nat) (l0 : List (S32)) (a1_0 : Bool) (a1_1 : ByteArray) (P1_2_ : Nat → Prop) (A1_2 : Option Addr) (c1_2 : Nat) (l1_2 : List (S75)) (r1 : List (S32)) (r2 : Int) (w : World) (hs0 : Kd.V k32 32 w w.heap.size (fun k_ => P0_ k_) (.slice A0 l0.length c0) l0) (hs1_2 : Kd.V k75 75 w w.heap.size (fun k_ => P1_2_ k_) (.slice A1_2 l1_2.length c1_2) l1_2) (h : spec_ProbeHappen.f k l0 a1_0 a1_1 l1_2 = some (r1, r2)) :
  Calls Tryz.prog 8 #[.slice A0 l0.length c0, .agg #[.bool a1_0, .string a1_1, .slice A1_2 l1_2.length c1_2]] w fun e w' => ∃ v0_ : Value, e = .returned (.tuple #[v0_, .int .i64 r2]) ∧ Kd.S k32 32 w' w.heap.size (fun _ => True) v0_ r1 ∧ Below w.heap.size w w' := by
 have Z0 := Tryz.underlying34
 have Z1 := Tryz.underlying32
 have Z2 := ra (show Kd.V k32 32 w w.heap.size (fun k_ => ((P0_ k_ ∨ P1_2_ k_) ∨ w.heap.size ≤ k_)) (.slice A0 l0.length c0) l0 from Kd.V_mono hs0 (fun k_ hk => .inl (.inl hk)))
 have Z3 := ra (show Kd.V k75 75 w w.heap.size (fun k_ => ((P0_ k_ ∨ P1_2_ k_) ∨ w.heap.size ≤ k_)) (.slice A1_2 l1_2.length c1_2) l1_2 from Kd.V_mono hs1_2 (fun k_ hk => .inl (.inr hk)))
 have HB := ra (Below.refl w.heap.size w)
 have H := h; unfold spec_ProbeHappen.f at H
 clear h
 obtain ⟨Z4, Z5, H⟩ := bo H
 rcases ud H with ⟨rfl, Z6⟩ | ⟨rfl, Z6⟩ <;> have H := Z6
 ·have Z7 := ra H; clear H
  go_enter Tryz.func8, Tryz.ntmps8
  go_upto_region 3 with (first | ((with_reducible refine gd 3 rfl ?_); (try (refine gate_guard (by rfl) ?_; dsimp only)); refine bf 3 #[.bool a1_0, .string a1_1, .slice A1_2 l1_2.length c1_2] 34 ?_; intro Z8 Z9 hg hb HB Z10 Z11; replace Z2 := ra (Kd.V_below (Kd.V_elderB (vq Z2) Z8 (Nat.le_of_eq hg.symm)) hb); replace Z3 := ra (Kd.V_below (Kd.V_elderB (vq Z3) Z8 (Nat.le_of_eq hg.symm)) hb); clear hg hb) | (go_at_call 45; (with_reducible refine (spec_ProbeSkyOk.calls _ _ _ _ _ _ ?side1 ?side2 Z5.out).mono ?_); (case side1 => exact sv Z2); (case side2 => exact (Kd.V_reads' Z2.out).2.1); rintro e Z12 ⟨rfl, hb⟩; replace Z2 := ra (Kd.V_below (vq Z2) hb); replace Z3 := ra (Kd.V_below (vq Z3) hb); replace Z10 := bb (bk Z10) hb; replace HB := bs hb; clear hb))
  repeat (go_quiet (first | ((with_reducible refine gd 3 rfl ?_); (try (refine gate_guard (by rfl) ?_; dsimp only)); refine bf 3 #[.bool a1_0, .string a1_1, .slice A1_2 l1_2.length c1_2] 34 ?_; intro Z8 Z9 hg hb HB Z10 Z11; replace Z2 := ra (Kd.V_below (Kd.V_elderB (vq Z2) Z8 (Nat.le_of_eq hg.symm)) hb); replace Z3 := ra (Kd.V_below (Kd.V_elderB (vq Z3) Z8 (Nat.le_of_eq hg.symm)) hb); clear hg hb) | (go_at_call 45; (with_reducible refine (spec_ProbeSkyOk.calls _ _ _ _ _ _ ?side1 ?side2 Z5.out).mono ?_); (case side1 => exact sv Z2); (case side2 => exact (Kd.V_reads' Z2.out).2.1); rintro e Z12 ⟨rfl, hb⟩; replace Z2 := ra (Kd.V_below (vq Z2) hb); replace Z3 := ra (Kd.V_below (vq Z3) hb); replace Z10 := bb (bk Z10) hb; replace HB := bs hb; clear hb)); go_upto_region 3 with (first | ((with_reducible refine gd 3 rfl ?_); (try (refine gate_guard (by rfl) ?_; dsimp only)); refine bf 3 #[.bool a1_0, .string a1_1, .slice A1_2 l1_2.length c1_2] 34 ?_; intro Z8 Z9 hg hb HB Z10 Z11; replace Z2 := ra (Kd.V_below (Kd.V_elderB (vq Z2) Z8 (Nat.le_of_eq hg.symm)) hb); replace Z3 := ra (Kd.V_below (Kd.V_elderB (vq Z3) Z8 (Nat.le_of_eq hg.symm)) hb); clear hg hb) | (go_at_call 45; (with_reducible refine (spec_ProbeSkyOk.calls _ _ _ _ _ _ ?side1 ?side2 Z5.out).mono ?_); (case side1 => exact sv Z2); (case side2 => exact (Kd.V_reads' Z2.out).2.1); rintro e Z12 ⟨rfl, hb⟩; replace Z2 := ra (Kd.V_below (vq Z2) hb); replace Z3 := ra (Kd.V_below (vq Z3) hb); replace Z10 := bb (bk Z10) hb; replace HB := bs hb; clear hb)))
  (try simp only [Act.put, List.setIfInBounds_toArray, List.set_cons_zero, List.set_cons_succ])
  go_cut [22] (fun v22 wc => ∃ (kq : Nat) (x22_4 : Bool), v22 = .bool x22_4 ∧ Aside0 (spec_ProbeHappen.j0 kq l0 x22_4 a1_0 a1_1 l1_2 = some (r1, r2)) ∧ Aside0 (kq ≤ k) ∧ Aside0 (Kd.V k32 32 wc w.heap.size (fun k_ => ((P0_ k_ ∨ P1_2_ k_) ∨ w.heap.size ≤ k_) ∧ k_ ≠ Z8) (.slice A0 l0.length c0) l0) ∧ Aside0 (Kd.V k75 75 wc w.heap.size (fun k_ => ((P0_ k_ ∨ P1_2_ k_) ∨ w.heap.size ≤ k_) ∧ k_ ≠ Z8) (.slice A1_2 l1_2.length c1_2) l1_2) ∧ Aside0 (wc.heap[Z8]? = some (.cells #[.bool a1_0, .string a1_1, (.slice A1_2 l1_2.length c1_2)] 34 (0, 0))) ∧ Aside0 (Below w.heap.size w wc))
  case first =>
   have H := Z7.out
   clear Z7
   rcases ud H with ⟨rfl, Z13⟩ | ⟨rfl, Z13⟩ <;> have H := Z13
   ·have H' := ra H; clear H
    have Z14 : Z12.cell? ⟨Z8, 0, none⟩ = some (.bool true) := (blk_cell Z10.out 0).trans rfl
    have Z15 : Z12.cell? ⟨Z8, 1, none⟩ = some (.string a1_1) := (blk_cell Z10.out 1).trans rfl
    have Z16 : Z12.cell? ⟨Z8, 2, none⟩ = some (.slice A1_2 l1_2.length c1_2) := (blk_cell Z10.out 2).trans rfl
    have Z17 := blk_frozen Z10.out 0
    have Z18 := blk_frozen Z10.out 1
    have Z19 := blk_frozen Z10.out 2
    go_wp2
    repeat (go_quiet (fail); try go_wp2)
    go_meet
    case rel => exact ⟨_, _, rs, H', ⟨by first | omega | exact Nat.le_refl _⟩, ⟨by (with_reducible repeat (first | apply Kd.V_alloc | apply Kd.V_drewN | apply Kd.V_drew)); exact Z2.out⟩, ⟨by (with_reducible repeat (first | apply Kd.V_alloc | apply Kd.V_drewN | apply Kd.V_drew)); exact Z3.out⟩, ⟨bk Z10⟩, ⟨bq⟩⟩
   ·obtain ⟨Z14, Z15, H⟩ := bo H
    have H' := ra H; clear H
    have Z16 : Z12.cell? ⟨Z8, 0, none⟩ = some (.bool false) := (blk_cell Z10.out 0).trans rfl
    have Z17 : Z12.cell? ⟨Z8, 1, none⟩ = some (.string a1_1) := (blk_cell Z10.out 1).trans rfl
    have Z18 : Z12.cell? ⟨Z8, 2, none⟩ = some (.slice A1_2 l1_2.length c1_2) := (blk_cell Z10.out 2).trans rfl
    have Z19 := blk_frozen Z10.out 0
    have Z20 := blk_frozen Z10.out 1
    have Z21 := blk_frozen Z10.out 2
    go_wp2_with (first | (go_at_call 17; (with_reducible refine (spec_ProbeTubeOk.calls _ _ _ _ _ _ _ ?side1 ?side2 Z15.out).mono ?_); (case side1 => exact sv Z3); (case side2 => exact (Kd.V_reads' Z3.out).2.1); rintro e Z22 ⟨rfl, hb⟩; replace Z2 := ra (Kd.V_below (vq Z2) hb); replace Z3 := ra (Kd.V_below (vq Z3) hb); replace Z10 := bb (bk Z10) hb; replace HB := bs hb; clear hb))
    repeat (go_quiet (first | (go_at_call 17; (with_reducible refine (spec_ProbeTubeOk.calls _ _ _ _ _ _ _ ?side1 ?side2 Z15.out).mono ?_); (case side1 => exact sv Z3); (case side2 => exact (Kd.V_reads' Z3.out).2.1); rintro e Z22 ⟨rfl, hb⟩; replace Z2 := ra (Kd.V_below (vq Z2) hb); replace Z3 := ra (Kd.V_below (vq Z3) hb); replace Z10 := bb (bk Z10) hb; replace HB := bs hb; clear hb)); try go_wp2_with (first | (go_at_call 17; (with_reducible refine (spec_ProbeTubeOk.calls _ _ _ _ _ _ _ ?side1 ?side2 Z15.out).mono ?_); (case side1 => exact sv Z3); (case side2 => exact (Kd.V_reads' Z3.out).2.1); rintro e Z22 ⟨rfl, hb⟩; replace Z2 := ra (Kd.V_below (vq Z2) hb); replace Z3 := ra (Kd.V_below (vq Z3) hb); replace Z10 := bb (bk Z10) hb; replace HB := bs hb; clear hb)))
    go_meet
    case rel => exact ⟨_, _, rs, H', ⟨by first | omega | exact Nat.le_refl _⟩, ⟨by (with_reducible repeat (first | apply Kd.V_alloc | apply Kd.V_drewN | apply Kd.V_drew)); exact Z2.out⟩, ⟨by (with_reducible repeat (first | apply Kd.V_alloc | apply Kd.V_drewN | apply Kd.V_drew)); exact Z3.out⟩, ⟨bk Z10⟩, ⟨bq⟩⟩
  case rest =>
   clear Z7
   obtain ⟨kq, Z13, rfl, HA, Z14, Z15, Z16, Z10, HB⟩ := hcut
   cases kq with
   | zero => exact absurd HA.out (by simp [spec_ProbeHappen.j0])
   | succ Z17 =>
    have H := HA.out
    clear HA
    simp only [spec_ProbeHappen.j0] at H
    rcases ud H with ⟨rfl, Z18⟩ | ⟨rfl, Z18⟩ <;> have H := Z18
    ·obtain ⟨Z19, Z20, H⟩ := bo H
     simp only [Option.some.injEq, Prod.mk.injEq] at H
     obtain ⟨rfl, rfl⟩ := H
     go_wp2_with (first | (go_at_call 46; (with_reducible refine (spec_l2List.calls _ _ _ _ _ _ ?side1 ?side2 Z20.out).mono ?_); (case side1 => exact sv Z15); (case side2 => exact (Kd.V_reads' Z15.out).2.1); rintro e Z21 ⟨Z22, rfl, Z23, hb⟩; have Z24 := ra (Kd.S_lower Z23 (below_size (by repeat (first | (with_reducible first | exact HB.out | apply below_alloc | apply pw_below_drewN | apply below_drew1 | refine below_set ?_ (Aside0.out (by assumption))) | exact HB.out)))); have Z25 := ra (Kd.N_lower (Kd.N_mono (ok' := fun k_ => ((P0_ k_ ∨ P1_2_ k_) ∨ w.heap.size ≤ k_) ∧ k_ ≠ Z8) (Kd.S_N (Kd.S_bound Z23)) (fun k_ hk_ => ⟨(.inr (Nat.le_trans (below_size bq) hk_.2.1)), (Kd.freshB (g := Z8) (o := .cells #[.bool a1_0, .string a1_1, .slice A1_2 l1_2.length c1_2] 34 (0, 0)) (bk Z10) k_ hk_.2.1)⟩)) (below_size bq)); replace Z15 := ra (Kd.V_elder' (vq Z15) (Kd.S_base Z23) hb); replace Z16 := ra (Kd.V_elder' (vq Z16) (Kd.S_base Z23) hb); replace Z10 := bb (bk Z10) hb; replace HB := bs hb; clear hb Z23))
     repeat (go_quiet (first | (go_at_call 46; (with_reducible refine (spec_l2List.calls _ _ _ _ _ _ ?side1 ?side2 Z20.out).mono ?_); (case side1 => exact sv Z15); (case side2 => exact (Kd.V_reads' Z15.out).2.1); rintro e Z21 ⟨Z22, rfl, Z23, hb⟩; have Z24 := ra (Kd.S_lower Z23 (below_size (by repeat (first | (with_reducible first | exact HB.out | apply below_alloc | apply pw_below_drewN | apply below_drew1 | refine below_set ?_ (Aside0.out (by assumption))) | exact HB.out)))); have Z25 := ra (Kd.N_lower (Kd.N_mono (ok' := fun k_ => ((P0_ k_ ∨ P1_2_ k_) ∨ w.heap.size ≤ k_) ∧ k_ ≠ Z8) (Kd.S_N (Kd.S_bound Z23)) (fun k_ hk_ => ⟨(.inr (Nat.le_trans (below_size bq) hk_.2.1)), (Kd.freshB (g := Z8) (o := .cells #[.bool a1_0, .string a1_1, .slice A1_2 l1_2.length c1_2] 34 (0, 0)) (bk Z10) k_ hk_.2.1)⟩)) (below_size bq)); replace Z15 := ra (Kd.V_elder' (vq Z15) (Kd.S_base Z23) hb); replace Z16 := ra (Kd.V_elder' (vq Z16) (Kd.S_base Z23) hb); replace Z10 := bb (bk Z10) hb; replace HB := bs hb; clear hb Z23)); try go_wp2_with (first | (go_at_call 46; (with_reducible refine (spec_l2List.calls _ _ _ _ _ _ ?side1 ?side2 Z20.out).mono ?_); (case side1 => exact sv Z15); (case side2 => exact (Kd.V_reads' Z15.out).2.1); rintro e Z21 ⟨Z22, rfl, Z23, hb⟩; have Z24 := ra (Kd.S_lower Z23 (below_size (by repeat (first | (with_reducible first | exact HB.out | apply below_alloc | apply pw_below_drewN | apply below_drew1 | refine below_set ?_ (Aside0.out (by assumption))) | exact HB.out)))); have Z25 := ra (Kd.N_lower (Kd.N_mono (ok' := fun k_ => ((P0_ k_ ∨ P1_2_ k_) ∨ w.heap.size ≤ k_) ∧ k_ ≠ Z8) (Kd.S_N (Kd.S_bound Z23)) (fun k_ hk_ => ⟨(.inr (Nat.le_trans (below_size bq) hk_.2.1)), (Kd.freshB (g := Z8) (o := .cells #[.bool a1_0, .string a1_1, .slice A1_2 l1_2.length c1_2] 34 (0, 0)) (bk Z10) k_ hk_.2.1)⟩)) (below_size bq)); replace Z15 := ra (Kd.V_elder' (vq Z15) (Kd.S_base Z23) hb); replace Z16 := ra (Kd.V_elder' (vq Z16) (Kd.S_base Z23) hb); replace Z10 := bb (bk Z10) hb; replace HB := bs hb; clear hb Z23)))
     go_ret2
     exact ⟨_, re, by (with_reducible repeat (first | apply Kd.S_alloc | apply Kd.S_drewN | apply Kd.S_drew)); exact Z24.out, bq⟩
    ·obtain ⟨Z19, Z20, H⟩ := bo H
     have Z21 := ra H; clear H
     have Z22 : wc.cell? ⟨Z8, 0, none⟩ = some (.bool a1_0) := (blk_cell Z10.out 0).trans rfl
     have Z23 : wc.cell? ⟨Z8, 1, none⟩ = some (.string a1_1) := (blk_cell Z10.out 1).trans rfl
     have Z24 : wc.cell? ⟨Z8, 2, none⟩ = some (.slice A1_2 l1_2.length c1_2) := (blk_cell Z10.out 2).trans rfl
     have Z25 := blk_frozen Z10.out 0
     have Z26 := blk_frozen Z10.out 1
     have Z27 := blk_frozen Z10.out 2
     go_upto_region 6 with (first | (go_at_call 47; (with_reducible refine (spec_l6At.calls _ _ _ _ _ _ _ ?side1 ?side2 Z20.out).mono ?_); (case side1 => exact sv Z15); (case side2 => exact (Kd.V_reads' Z15.out).2.1); rintro e w' ⟨rfl, ⟨nd, rfl⟩⟩; (try first | exact ⟨rfl, _, World.drewN_drewN _ _ _⟩ | exact ⟨rfl, _, Eq.trans (World.drewN_drewN _ _ _) (congrArg (World.drewN _) (Nat.add_assoc _ _ _))⟩)))
     repeat (go_quiet (first | (go_at_call 47; (with_reducible refine (spec_l6At.calls _ _ _ _ _ _ _ ?side1 ?side2 Z20.out).mono ?_); (case side1 => exact sv Z15); (case side2 => exact (Kd.V_reads' Z15.out).2.1); rintro e w' ⟨rfl, ⟨nd, rfl⟩⟩; (try first | exact ⟨rfl, _, World.drewN_drewN _ _ _⟩ | exact ⟨rfl, _, Eq.trans (World.drewN_drewN _ _ _) (congrArg (World.drewN _) (Nat.add_assoc _ _ _))⟩))); go_upto_region 6 with (first | (go_at_call 47; (with_reducible refine (spec_l6At.calls _ _ _ _ _ _ _ ?side1 ?side2 Z20.out).mono ?_); (case side1 => exact sv Z15); (case side2 => exact (Kd.V_reads' Z15.out).2.1); rintro e w' ⟨rfl, ⟨nd, rfl⟩⟩; (try first | exact ⟨rfl, _, World.drewN_drewN _ _ _⟩ | exact ⟨rfl, _, Eq.trans (World.drewN_drewN _ _ _) (congrArg (World.drewN _) (Nat.add_assoc _ _ _))⟩))))
     (try simp only [Act.put, List.setIfInBounds_toArray, List.set_cons_zero, List.set_cons_succ])
     go_cut [35] (fun v35 wc => ∃ (kq : Nat) (x35_16 : Bool), v35 = .bool x35_16 ∧ Aside0 (spec_ProbeHappen.j1 kq l0 Z19 x35_16 a1_0 a1_1 l1_2 = some (r1, r2)) ∧ Aside0 (kq ≤ Z17) ∧ Aside0 (Kd.V k32 32 wc w.heap.size (fun k_ => ((P0_ k_ ∨ P1_2_ k_) ∨ w.heap.size ≤ k_) ∧ k_ ≠ Z8) (.slice A0 l0.length c0) l0) ∧ Aside0 (Kd.V k75 75 wc w.heap.size (fun k_ => ((P0_ k_ ∨ P1_2_ k_) ∨ w.heap.size ≤ k_) ∧ k_ ≠ Z8) (.slice A1_2 l1_2.length c1_2) l1_2) ∧ Aside0 (wc.heap[Z8]? = some (.cells #[.bool a1_0, .string a1_1, (.slice A1_2 l1_2.length c1_2)] 34 (0, 0))) ∧ Aside0 (Below w.heap.size w wc))
     case first =>
      have H := Z21.out
      clear Z21
      rcases ud H with ⟨rfl, Z28⟩ | ⟨rfl, Z28⟩ <;> have H := Z28
      have H' := ra H; clear H
      have Z29 : wc.cell? ⟨Z8, 0, none⟩ = some (.bool true) := (blk_cell Z10.out 0).trans rfl
      rotate_left
      have H' := ra H; clear H
      have Z29 : wc.cell? ⟨Z8, 0, none⟩ = some (.bool false) := (blk_cell Z10.out 0).trans rfl
      rotate_left
      all_goals
       have Z30 : wc.cell? ⟨Z8, 1, none⟩ = some (.string a1_1) := (blk_cell Z10.out 1).trans rfl
       have Z31 : wc.cell? ⟨Z8, 2, none⟩ = some (.slice A1_2 l1_2.length c1_2) := (blk_cell Z10.out 2).trans rfl
       have Z32 := blk_frozen Z10.out 0
       have Z33 := blk_frozen Z10.out 1
       have Z34 := blk_frozen Z10.out 2
       go_wp2
       repeat (go_quiet (fail); try go_wp2)
       go_meet
       case rel => exact ⟨_, _, rs, H', ⟨by have := Z14.out; first | omega | exact Nat.le_refl _⟩, ⟨by (with_reducible repeat (first | apply Kd.V_alloc | apply Kd.V_drewN | apply Kd.V_drew)); exact Z15.out⟩, ⟨by (with_reducible repeat (first | apply Kd.V_alloc | apply Kd.V_drewN | apply Kd.V_drew)); exact Z16.out⟩, ⟨bk Z10⟩, ⟨bq⟩⟩
     case rest =>
      clear Z21
      try clear Z22
      try clear Z23
      try clear Z24
      try clear Z25
      try clear Z26
      try clear Z27
      obtain ⟨kq, Z28, rfl, HA, Z29, Z15, Z16, Z10, HB⟩ := hcut
      cases kq with
      | zero => exact absurd HA.out (by simp [spec_ProbeHappen.j1])
      | succ Z30 =>
       have H := HA.out
       clear HA
       simp only [spec_ProbeHappen.j1] at H
       rcases ud H with ⟨rfl, Z31⟩ | ⟨rfl, Z31⟩ <;> have H := Z31
       ·obtain ⟨Z32, Z33, H⟩ := bo H
        simp only [Option.some.injEq, Prod.mk.injEq] at H
        obtain ⟨rfl, rfl⟩ := H
        go_wp2_with (first | (go_at_call 46; (with_reducible refine (spec_l2List.calls _ _ _ _ _ _ ?side1 ?side2 Z33.out).mono ?_); (case side1 => exact sv Z15); (case side2 => exact (Kd.V_reads' Z15.out).2.1); rintro e Z34 ⟨Z35, rfl, Z36, hb⟩; have Z37 := ra (Kd.S_lower Z36 (below_size (by repeat (first | (with_reducible first | exact HB.out | apply below_alloc | apply pw_below_drewN | apply below_drew1 | refine below_set ?_ (Aside0.out (by assumption))) | exact HB.out)))); have Z38 := ra (Kd.N_lower (Kd.N_mono (ok' := fun k_ => ((P0_ k_ ∨ P1_2_ k_) ∨ w.heap.size ≤ k_) ∧ k_ ≠ Z8) (Kd.S_N (Kd.S_bound Z36)) (fun k_ hk_ => ⟨(.inr (Nat.le_trans (below_size bq) hk_.2.1)), (Kd.freshB (g := Z8) (o := .cells #[.bool a1_0, .string a1_1, .slice A1_2 l1_2.length c1_2] 34 (0, 0)) (bk Z10) k_ hk_.2.1)⟩)) (below_size bq)); replace Z15 := ra (Kd.V_elder' (vq Z15) (Kd.S_base Z36) hb); replace Z16 := ra (Kd.V_elder' (vq Z16) (Kd.S_base Z36) hb); replace Z10 := bb (bk Z10) hb; replace HB := bs hb; clear hb Z36))
        repeat (go_quiet (first | (go_at_call 46; (with_reducible refine (spec_l2List.calls _ _ _ _ _ _ ?side1 ?side2 Z33.out).mono ?_); (case side1 => exact sv Z15); (case side2 => exact (Kd.V_reads' Z15.out).2.1); rintro e Z34 ⟨Z35, rfl, Z36, hb⟩; have Z37 := ra (Kd.S_lower Z36 (below_size (by repeat (first | (with_reducible first | exact HB.out | apply below_alloc | apply pw_below_drewN | apply below_drew1 | refine below_set ?_ (Aside0.out (by assumption))) | exact HB.out)))); have Z38 := ra (Kd.N_lower (Kd.N_mono (ok' := fun k_ => ((P0_ k_ ∨ P1_2_ k_) ∨ w.heap.size ≤ k_) ∧ k_ ≠ Z8) (Kd.S_N (Kd.S_bound Z36)) (fun k_ hk_ => ⟨(.inr (Nat.le_trans (below_size bq) hk_.2.1)), (Kd.freshB (g := Z8) (o := .cells #[.bool a1_0, .string a1_1, .slice A1_2 l1_2.length c1_2] 34 (0, 0)) (bk Z10) k_ hk_.2.1)⟩)) (below_size bq)); replace Z15 := ra (Kd.V_elder' (vq Z15) (Kd.S_base Z36) hb); replace Z16 := ra (Kd.V_elder' (vq Z16) (Kd.S_base Z36) hb); replace Z10 := bb (bk Z10) hb; replace HB := bs hb; clear hb Z36)); try go_wp2_with (first | (go_at_call 46; (with_reducible refine (spec_l2List.calls _ _ _ _ _ _ ?side1 ?side2 Z33.out).mono ?_); (case side1 => exact sv Z15); (case side2 => exact (Kd.V_reads' Z15.out).2.1); rintro e Z34 ⟨Z35, rfl, Z36, hb⟩; have Z37 := ra (Kd.S_lower Z36 (below_size (by repeat (first | (with_reducible first | exact HB.out | apply below_alloc | apply pw_below_drewN | apply below_drew1 | refine below_set ?_ (Aside0.out (by assumption))) | exact HB.out)))); have Z38 := ra (Kd.N_lower (Kd.N_mono (ok' := fun k_ => ((P0_ k_ ∨ P1_2_ k_) ∨ w.heap.size ≤ k_) ∧ k_ ≠ Z8) (Kd.S_N (Kd.S_bound Z36)) (fun k_ hk_ => ⟨(.inr (Nat.le_trans (below_size bq) hk_.2.1)), (Kd.freshB (g := Z8) (o := .cells #[.bool a1_0, .string a1_1, .slice A1_2 l1_2.length c1_2] 34 (0, 0)) (bk Z10) k_ hk_.2.1)⟩)) (below_size bq)); replace Z15 := ra (Kd.V_elder' (vq Z15) (Kd.S_base Z36) hb); replace Z16 := ra (Kd.V_elder' (vq Z16) (Kd.S_base Z36) hb); replace Z10 := bb (bk Z10) hb; replace HB := bs hb; clear hb Z36)))
        go_ret2
        exact ⟨_, re, by (with_reducible repeat (first | apply Kd.S_alloc | apply Kd.S_drewN | apply Kd.S_drew)); exact Z37.out, bq⟩
       ·have Z32 := ra H; clear H
        go_upto_region 8 with (fail)
        repeat (go_quiet (fail); go_upto_region 8 with (fail))
        go_cut [49] (fun v49 wc => ∃ (kq : Nat) (x49_24 : Bool), v49 = .bool x49_24 ∧ Aside0 (spec_ProbeHappen.j2 kq l0 Z19 x49_24 a1_0 a1_1 l1_2 = some (r1, r2)) ∧ Aside0 (kq ≤ Z30) ∧ Aside0 (Kd.V k32 32 wc w.heap.size (fun k_ => ((P0_ k_ ∨ P1_2_ k_) ∨ w.heap.size ≤ k_) ∧ k_ ≠ Z8) (.slice A0 l0.length c0) l0) ∧ Aside0 (Kd.V k75 75 wc w.heap.size (fun k_ => ((P0_ k_ ∨ P1_2_ k_) ∨ w.heap.size ≤ k_) ∧ k_ ≠ Z8) (.slice A1_2 l1_2.length c1_2) l1_2) ∧ Aside0 (wc.heap[Z8]? = some (.cells #[.bool a1_0, .string a1_1, (.slice A1_2 l1_2.length c1_2)] 34 (0, 0))) ∧ Aside0 (Below w.heap.size w wc))
        case first =>
         have H := Z32.out
         clear Z32
         rcases ud H with ⟨rfl, Z33⟩ | ⟨rfl, Z33⟩ <;> have H := Z33
         have H' := ra H; clear H
         have Z34 : wc.cell? ⟨Z8, 0, none⟩ = some (.bool true) := (blk_cell Z10.out 0).trans rfl
         rotate_left
         rcases td H with ⟨Z34, H⟩ | ⟨Z34, H⟩
         (first | rw [Z34] | (simp only [i64_w, i32_w]; rw [Z34]) | skip)
         have H' := ra H; clear H
         have Z35 : wc.cell? ⟨Z8, 0, none⟩ = some (.bool false) := (blk_cell Z10.out 0).trans rfl
         rotate_left
         (first | rw [Z34] | (simp only [i64_w, i32_w]; rw [Z34]) | skip)
         have H' := ra H; clear H
         have Z35 : wc.cell? ⟨Z8, 0, none⟩ = some (.bool false) := (blk_cell Z10.out 0).trans rfl
         rotate_left
         all_goals
          have Z35 : wc.cell? ⟨Z8, 1, none⟩ = some (.string a1_1) := (blk_cell Z10.out 1).trans rfl
          have Z36 : wc.cell? ⟨Z8, 2, none⟩ = some (.slice A1_2 l1_2.length c1_2) := (blk_cell Z10.out 2).trans rfl
          have Z37 := blk_frozen Z10.out 0
          have Z38 := blk_frozen Z10.out 1
          have Z39 := blk_frozen Z10.out 2
          go_wp2
          repeat (go_quiet (fail); try go_wp2)
          go_meet
          case rel => exact ⟨_, _, rs, H', ⟨by have := Z14.out; have := Z29.out; first | omega | exact Nat.le_refl _⟩, ⟨by (with_reducible repeat (first | apply Kd.V_alloc | apply Kd.V_drewN | apply Kd.V_drew)); exact Z15.out⟩, ⟨by (with_reducible repeat (first | apply Kd.V_alloc | apply Kd.V_drewN | apply Kd.V_drew)); exact Z16.out⟩, ⟨bk Z10⟩, ⟨bq⟩⟩
        case rest =>
         clear Z32
         try clear Z22
         try clear Z23
         try clear Z24
         try clear Z25
         try clear Z26
         try clear Z27
         obtain ⟨kq, Z33, rfl, HA, Z34, Z15, Z16, Z10, HB⟩ := hcut
         cases kq with
         | zero => exact absurd HA.out (by simp [spec_ProbeHappen.j2])
         | succ Z35 =>
          have H := HA.out
          clear HA
          simp only [spec_ProbeHappen.j2] at H
          rcases ud H with ⟨rfl, Z36⟩ | ⟨rfl, Z36⟩ <;> have H := Z36
          ·obtain ⟨Z37, Z38, H⟩ := bo H
           simp only [Option.some.injEq, Prod.mk.injEq] at H
           obtain ⟨rfl, rfl⟩ := H
           go_wp2_with (first | (go_at_call 46; (with_reducible refine (spec_l2List.calls _ _ _ _ _ _ ?side1 ?side2 Z38.out).mono ?_); (case side1 => exact sv Z15); (case side2 => exact (Kd.V_reads' Z15.out).2.1); rintro e Z39 ⟨Z40, rfl, Z41, hb⟩; have Z42 := ra (Kd.S_lower Z41 (below_size (by repeat (first | (with_reducible first | exact HB.out | apply below_alloc | apply pw_below_drewN | apply below_drew1 | refine below_set ?_ (Aside0.out (by assumption))) | exact HB.out)))); have Z43 := ra (Kd.N_lower (Kd.N_mono (ok' := fun k_ => ((P0_ k_ ∨ P1_2_ k_) ∨ w.heap.size ≤ k_) ∧ k_ ≠ Z8) (Kd.S_N (Kd.S_bound Z41)) (fun k_ hk_ => ⟨(.inr (Nat.le_trans (below_size bq) hk_.2.1)), (Kd.freshB (g := Z8) (o := .cells #[.bool a1_0, .string a1_1, .slice A1_2 l1_2.length c1_2] 34 (0, 0)) (bk Z10) k_ hk_.2.1)⟩)) (below_size bq)); replace Z15 := ra (Kd.V_elder' (vq Z15) (Kd.S_base Z41) hb); replace Z16 := ra (Kd.V_elder' (vq Z16) (Kd.S_base Z41) hb); replace Z10 := bb (bk Z10) hb; replace HB := bs hb; clear hb Z41))
           repeat (go_quiet (first | (go_at_call 46; (with_reducible refine (spec_l2List.calls _ _ _ _ _ _ ?side1 ?side2 Z38.out).mono ?_); (case side1 => exact sv Z15); (case side2 => exact (Kd.V_reads' Z15.out).2.1); rintro e Z39 ⟨Z40, rfl, Z41, hb⟩; have Z42 := ra (Kd.S_lower Z41 (below_size (by repeat (first | (with_reducible first | exact HB.out | apply below_alloc | apply pw_below_drewN | apply below_drew1 | refine below_set ?_ (Aside0.out (by assumption))) | exact HB.out)))); have Z43 := ra (Kd.N_lower (Kd.N_mono (ok' := fun k_ => ((P0_ k_ ∨ P1_2_ k_) ∨ w.heap.size ≤ k_) ∧ k_ ≠ Z8) (Kd.S_N (Kd.S_bound Z41)) (fun k_ hk_ => ⟨(.inr (Nat.le_trans (below_size bq) hk_.2.1)), (Kd.freshB (g := Z8) (o := .cells #[.bool a1_0, .string a1_1, .slice A1_2 l1_2.length c1_2] 34 (0, 0)) (bk Z10) k_ hk_.2.1)⟩)) (below_size bq)); replace Z15 := ra (Kd.V_elder' (vq Z15) (Kd.S_base Z41) hb); replace Z16 := ra (Kd.V_elder' (vq Z16) (Kd.S_base Z41) hb); replace Z10 := bb (bk Z10) hb; replace HB := bs hb; clear hb Z41)); try go_wp2_with (first | (go_at_call 46; (with_reducible refine (spec_l2List.calls _ _ _ _ _ _ ?side1 ?side2 Z38.out).mono ?_); (case side1 => exact sv Z15); (case side2 => exact (Kd.V_reads' Z15.out).2.1); rintro e Z39 ⟨Z40, rfl, Z41, hb⟩; have Z42 := ra (Kd.S_lower Z41 (below_size (by repeat (first | (with_reducible first | exact HB.out | apply below_alloc | apply pw_below_drewN | apply below_drew1 | refine below_set ?_ (Aside0.out (by assumption))) | exact HB.out)))); have Z43 := ra (Kd.N_lower (Kd.N_mono (ok' := fun k_ => ((P0_ k_ ∨ P1_2_ k_) ∨ w.heap.size ≤ k_) ∧ k_ ≠ Z8) (Kd.S_N (Kd.S_bound Z41)) (fun k_ hk_ => ⟨(.inr (Nat.le_trans (below_size bq) hk_.2.1)), (Kd.freshB (g := Z8) (o := .cells #[.bool a1_0, .string a1_1, .slice A1_2 l1_2.length c1_2] 34 (0, 0)) (bk Z10) k_ hk_.2.1)⟩)) (below_size bq)); replace Z15 := ra (Kd.V_elder' (vq Z15) (Kd.S_base Z41) hb); replace Z16 := ra (Kd.V_elder' (vq Z16) (Kd.S_base Z41) hb); replace Z10 := bb (bk Z10) hb; replace HB := bs hb; clear hb Z41)))
           go_ret2
           exact ⟨_, re, by (with_reducible repeat (first | apply Kd.S_alloc | apply Kd.S_drewN | apply Kd.S_drew)); exact Z42.out, bq⟩
          ·obtain ⟨Z37, hy_⟩ : ∃ y_ : List (S32), y_ = (([] : List (S32))) := ⟨_, rfl⟩
           replace H : (spec_ProbeHappen.l0 Z35 l0 Z19 Z37 a1_0 0 a1_0 a1_1 l1_2) = some (r1, r2) := yh
           have Z38 := ra hy_
           clear hy_
           have H' := ra H; clear H
           go_wp2_with (first | ((with_reducible refine gd 52 rfl ?_); (try (refine gate_guard (by rfl) ?_; dsimp only)); refine Kd.N_lit k32 _ 32 ?hg (N' := 52) ?hd (xs := ([] : List (S32))) (inner := []) (ok := (fun k_ => ((P0_ k_ ∨ P1_2_ k_) ∨ w.heap.size ≤ k_) ∧ k_ ≠ Z8)) (okp := (fun k_ => ((P0_ k_ ∨ P1_2_ k_) ∨ w.heap.size ≤ k_) ∧ k_ ≠ Z8)) ?hr ?hp (fun _ hk => hk) ((show ∀ k_, wc.heap.size ≤ k_ → (fun k_ => ((P0_ k_ ∨ P1_2_ k_) ∨ w.heap.size ≤ k_) ∧ k_ ≠ Z8) k_ from fun k_ hk => ⟨(.inr (Nat.le_trans (below_size bq) hk)), Kd.freshB (g := Z8) (o := .cells #[.bool a1_0, .string a1_1, .slice A1_2 l1_2.length c1_2] 34 (0, 0)) (bk Z10) k_ hk⟩) _ (Nat.le_refl _)) (Below.refl _ _) (Nat.le_refl _) (by simp) ?_; (case hd => rfl); (case hg => rfl); (case hr => first | (go_simp; done) | (go_simp; rfl)); (case hp => exact (Reps.none _ _)); intro Z39 Z40 Z41 hb hg_ hnew_; clear hg_ hnew_; (first | rw [← Z38.out] at Z41 | (simp only [Int.reduceToNat] at Z41; rw [← Z38.out] at Z41)); have Z42 := ra (Kd.N_lower Z41 (below_size bq)); replace Z15 := ra (Kd.V_elder' (vq Z15) (Kd.N_base Z41) hb); replace Z16 := ra (Kd.V_elder' (vq Z16) (Kd.N_base Z41) hb); replace Z10 := bb (bk Z10) hb; replace HB := bs hb; clear hb Z41; have Z43 : Z40.cell? ⟨Z8, 0, none⟩ = some (.bool a1_0) := (blk_cell Z10.out 0).trans rfl; have Z44 : Z40.cell? ⟨Z8, 1, none⟩ = some (.string a1_1) := (blk_cell Z10.out 1).trans rfl; have Z45 : Z40.cell? ⟨Z8, 2, none⟩ = some (.slice A1_2 l1_2.length c1_2) := (blk_cell Z10.out 2).trans rfl; have Z46 := blk_frozen Z10.out 0; have Z47 := blk_frozen Z10.out 1; have Z48 := blk_frozen Z10.out 2))
           repeat (go_quiet (first | ((with_reducible refine gd 52 rfl ?_); (try (refine gate_guard (by rfl) ?_; dsimp only)); refine Kd.N_lit k32 _ 32 ?hg (N' := 52) ?hd (xs := ([] : List (S32))) (inner := []) (ok := (fun k_ => ((P0_ k_ ∨ P1_2_ k_) ∨ w.heap.size ≤ k_) ∧ k_ ≠ Z8)) (okp := (fun k_ => ((P0_ k_ ∨ P1_2_ k_) ∨ w.heap.size ≤ k_) ∧ k_ ≠ Z8)) ?hr ?hp (fun _ hk => hk) ((show ∀ k_, wc.heap.size ≤ k_ → (fun k_ => ((P0_ k_ ∨ P1_2_ k_) ∨ w.heap.size ≤ k_) ∧ k_ ≠ Z8) k_ from fun k_ hk => ⟨(.inr (Nat.le_trans (below_size bq) hk)), Kd.freshB (g := Z8) (o := .cells #[.bool a1_0, .string a1_1, .slice A1_2 l1_2.length c1_2] 34 (0, 0)) (bk Z10) k_ hk⟩) _ (Nat.le_refl _)) (Below.refl _ _) (Nat.le_refl _) (by simp) ?_; (case hd => rfl); (case hg => rfl); (case hr => first | (go_simp; done) | (go_simp; rfl)); (case hp => exact (Reps.none _ _)); intro Z39 Z40 Z41 hb hg_ hnew_; clear hg_ hnew_; (first | rw [← Z38.out] at Z41 | (simp only [Int.reduceToNat] at Z41; rw [← Z38.out] at Z41)); have Z42 := ra (Kd.N_lower Z41 (below_size bq)); replace Z15 := ra (Kd.V_elder' (vq Z15) (Kd.N_base Z41) hb); replace Z16 := ra (Kd.V_elder' (vq Z16) (Kd.N_base Z41) hb); replace Z10 := bb (bk Z10) hb; replace HB := bs hb; clear hb Z41; have Z43 : Z40.cell? ⟨Z8, 0, none⟩ = some (.bool a1_0) := (blk_cell Z10.out 0).trans rfl; have Z44 : Z40.cell? ⟨Z8, 1, none⟩ = some (.string a1_1) := (blk_cell Z10.out 1).trans rfl; have Z45 : Z40.cell? ⟨Z8, 2, none⟩ = some (.slice A1_2 l1_2.length c1_2) := (blk_cell Z10.out 2).trans rfl; have Z46 := blk_frozen Z10.out 0; have Z47 := blk_frozen Z10.out 1; have Z48 := blk_frozen Z10.out 2)); try go_wp2_with (first | ((with_reducible refine gd 52 rfl ?_); (try (refine gate_guard (by rfl) ?_; dsimp only)); refine Kd.N_lit k32 _ 32 ?hg (N' := 52) ?hd (xs := ([] : List (S32))) (inner := []) (ok := (fun k_ => ((P0_ k_ ∨ P1_2_ k_) ∨ w.heap.size ≤ k_) ∧ k_ ≠ Z8)) (okp := (fun k_ => ((P0_ k_ ∨ P1_2_ k_) ∨ w.heap.size ≤ k_) ∧ k_ ≠ Z8)) ?hr ?hp (fun _ hk => hk) ((show ∀ k_, wc.heap.size ≤ k_ → (fun k_ => ((P0_ k_ ∨ P1_2_ k_) ∨ w.heap.size ≤ k_) ∧ k_ ≠ Z8) k_ from fun k_ hk => ⟨(.inr (Nat.le_trans (below_size bq) hk)), Kd.freshB (g := Z8) (o := .cells #[.bool a1_0, .string a1_1, .slice A1_2 l1_2.length c1_2] 34 (0, 0)) (bk Z10) k_ hk⟩) _ (Nat.le_refl _)) (Below.refl _ _) (Nat.le_refl _) (by simp) ?_; (case hd => rfl); (case hg => rfl); (case hr => first | (go_simp; done) | (go_simp; rfl)); (case hp => exact (Reps.none _ _)); intro Z39 Z40 Z41 hb hg_ hnew_; clear hg_ hnew_; (first | rw [← Z38.out] at Z41 | (simp only [Int.reduceToNat] at Z41; rw [← Z38.out] at Z41)); have Z42 := ra (Kd.N_lower Z41 (below_size bq)); replace Z15 := ra (Kd.V_elder' (vq Z15) (Kd.N_base Z41) hb); replace Z16 := ra (Kd.V_elder' (vq Z16) (Kd.N_base Z41) hb); replace Z10 := bb (bk Z10) hb; replace HB := bs hb; clear hb Z41; have Z43 : Z40.cell? ⟨Z8, 0, none⟩ = some (.bool a1_0) := (blk_cell Z10.out 0).trans rfl; have Z44 : Z40.cell? ⟨Z8, 1, none⟩ = some (.string a1_1) := (blk_cell Z10.out 1).trans rfl; have Z45 : Z40.cell? ⟨Z8, 2, none⟩ = some (.slice A1_2 l1_2.length c1_2) := (blk_cell Z10.out 2).trans rfl; have Z46 := blk_frozen Z10.out 0; have Z47 := blk_frozen Z10.out 1; have Z48 := blk_frozen Z10.out 2)))
           go_loopg [7, 8, 9] Z35 (fun kq v7 v8 v9 w' => ∃ (x7_4 : List (S32)) (x8_4 : Bool) (x9_4 : Int), v8 = .bool x8_4 ∧ v9 = .int .i64 x9_4 ∧ Aside0 (spec_ProbeHappen.l0 kq l0 Z19 x7_4 x8_4 x9_4 a1_0 a1_1 l1_2 = some (r1, r2)) ∧ Aside0 (kq ≤ Z35) ∧ Aside0 (Kd.V k32 32 w' w.heap.size (fun k_ => ((P0_ k_ ∨ P1_2_ k_) ∨ w.heap.size ≤ k_) ∧ some k_ ≠ (v7 : Value).ownBlock ∧ k_ ≠ Z8) (.slice A0 l0.length c0) l0) ∧ Aside0 (Kd.N k32 32 w' w.heap.size (fun k_ => ((P0_ k_ ∨ P1_2_ k_) ∨ w.heap.size ≤ k_) ∧ k_ ≠ Z8) v7 x7_4) ∧ Aside0 (Kd.V k75 75 w' w.heap.size (fun k_ => ((P0_ k_ ∨ P1_2_ k_) ∨ w.heap.size ≤ k_) ∧ some k_ ≠ (v7 : Value).ownBlock ∧ k_ ≠ Z8) (.slice A1_2 l1_2.length c1_2) l1_2) ∧ Aside0 (w'.heap[Z8]? = some (.cells #[.bool a1_0, .string a1_1, (.slice A1_2 l1_2.length c1_2)] 34 (0, 0))) ∧ Aside0 (Below w.heap.size w w'))
           case atStart => exact ⟨(Z37), (a1_0), (0), rs, rs, H', ⟨Nat.le_refl _⟩, ⟨by (with_reducible repeat (first | apply Kd.V_alloc | apply Kd.V_drewN | apply Kd.V_drew)); exact Kd.V_mono Z15.out (fun _ hk => ⟨hk.1.1, ⟨hk.2, hk.1.2⟩⟩)⟩, ⟨by (with_reducible repeat (first | apply Kd.N_alloc | apply Kd.N_drewN | apply Kd.N_drew)); exact Z42.out⟩, ⟨by (with_reducible repeat (first | apply Kd.V_alloc | apply Kd.V_drewN | apply Kd.V_drew)); exact Kd.V_mono Z16.out (fun _ hk => ⟨hk.1.1, ⟨hk.2, hk.1.2⟩⟩)⟩, ⟨bk Z10⟩, ⟨bq⟩⟩
           case round =>
            clear H'
            try clear Z22
            try clear Z23
            try clear Z24
            try clear Z43
            try clear Z44
            try clear Z45
            try clear Z25
            try clear Z26
            try clear Z27
            try clear Z46
            try clear Z47
            try clear Z48
            obtain ⟨Z49, Z50, Z51, rfl, rfl, HA, Z52, Z15, Z53, Z16, Z10, HB⟩ := hrel
            cases gk with
            | zero => exact absurd HA.out (by simp [spec_ProbeHappen.l0])
            | succ Z54 =>
             have H := HA.out
             clear HA
             simp only [spec_ProbeHappen.l0] at H
             rcases td H with ⟨Z55, H⟩ | ⟨Z55, H⟩
             ·have Z56 := ra H; clear H
              go_upto_region 15 with (fail)
              repeat (go_quiet (fail); go_upto_region 15 with (fail))
              go_cut [73] (fun v73 wc => ∃ (kq : Nat) (x73_37 : Bool), v73 = .bool x73_37 ∧ Aside0 (spec_ProbeHappen.j4 kq l0 Z19 Z49 Z50 Z51 x73_37 a1_0 a1_1 l1_2 = some (r1, r2)) ∧ Aside0 (kq ≤ Z54) ∧ Aside0 (Kd.V k32 32 wc w.heap.size (fun k_ => ((P0_ k_ ∨ P1_2_ k_) ∨ w.heap.size ≤ k_) ∧ some k_ ≠ (u7 : Value).ownBlock ∧ k_ ≠ Z8) (.slice A0 l0.length c0) l0) ∧ Aside0 (Kd.N k32 32 wc w.heap.size (fun k_ => ((P0_ k_ ∨ P1_2_ k_) ∨ w.heap.size ≤ k_) ∧ k_ ≠ Z8) u7 Z49) ∧ Aside0 (Kd.V k75 75 wc w.heap.size (fun k_ => ((P0_ k_ ∨ P1_2_ k_) ∨ w.heap.size ≤ k_) ∧ some k_ ≠ (u7 : Value).ownBlock ∧ k_ ≠ Z8) (.slice A1_2 l1_2.length c1_2) l1_2) ∧ Aside0 (wc.heap[Z8]? = some (.cells #[.bool a1_0, .string a1_1, (.slice A1_2 l1_2.length c1_2)] 34 (0, 0))) ∧ Aside0 (Below w.heap.size w wc))
              case first =>
               have H := Z56.out
               clear Z56
               rcases ud H with ⟨rfl, Z57⟩ | ⟨rfl, Z57⟩ <;> have H := Z57
               ·have H' := ra H; clear H
                go_wp2
                repeat (go_quiet (fail); try go_wp2)
                go_meet
                case rel => exact ⟨_, _, rs, H', ⟨by have := Z14.out; have := Z29.out; have := Z34.out; have := Z52.out; first | omega | exact Nat.le_refl _⟩, ⟨by (with_reducible repeat (first | apply Kd.V_alloc | apply Kd.V_drewN | apply Kd.V_drew)); exact Z15.out⟩, ⟨by (with_reducible repeat (first | apply Kd.N_alloc | apply Kd.N_drewN | apply Kd.N_drew)); exact Z53.out⟩, ⟨by (with_reducible repeat (first | apply Kd.V_alloc | apply Kd.V_drewN | apply Kd.V_drew)); exact Z16.out⟩, ⟨bk Z10⟩, ⟨bq⟩⟩
               ·obtain ⟨Z58, H⟩ := tn H
                (first | rw [Z58] | (simp only [i64_w, i32_w]; rw [Z58]) | skip)
                have H' := ra H; clear H
                have Z59 : 0 ≤ (Z51 : Int) := od
                have Z60 : Z51 < (l0.length : Int) := od
                obtain ⟨Z61, Z62, Z63, Z64, Z65, Z66, Z67, Z68⟩ := at_T32 (Kd.V_reads' Z15.out).2.2 Z51 Z59 Z60
                cases Z64
                obtain ⟨Z69, Z70, Z71, Z72⟩ := Kd.V_get Z15.out z32 Z51 Z59 (by first | exact Z60 | exact od | (have e_ := (Kd.V_reads' Z15.out).1; omega))
                obtain ⟨Z73, Z74, rfl, Z75, Z76⟩ := k32_openF Z71
                have Z77 := Z72 1 _ rfl
                rw [add_field _ _ 1 (by omega)] at Z77
                replace Z77 := Option.some.inj (Z77.symm.trans Z66)
                injection Z77 with hva_ hvn_ hvc_
                rw [hva_] at Z76
                rw [hvc_] at Z75
                have Z78 := ra (show Kd.V k75 75 _ w.heap.size _ _ ((rd_T32 l0 Z51).f1) from Kd.V_mk Z75 Z76)
                clear hva_ hvn_ hvc_ Z76 Z75
                clear Z72 Z70
                have Z79 := ra Z68
                have Z80 := ra Z67
                clear Z68 Z67
                replace Z59 := eq_true Z59
                replace Z60 := eq_true Z60
                have Z81 : wr.cell? ⟨Z8, 0, none⟩ = some (.bool a1_0) := (blk_cell Z10.out 0).trans rfl
                have Z82 : wr.cell? ⟨Z8, 1, none⟩ = some (.string a1_1) := (blk_cell Z10.out 1).trans rfl
                have Z83 : wr.cell? ⟨Z8, 2, none⟩ = some (.slice A1_2 l1_2.length c1_2) := (blk_cell Z10.out 2).trans rfl
                have Z84 := blk_frozen Z10.out 0
                have Z85 := blk_frozen Z10.out 1
                have Z86 := blk_frozen Z10.out 2
                go_wp2
                repeat (go_quiet (fail); try go_wp2)
                go_meet
                case rel => exact ⟨_, _, rs, H', ⟨by have := Z14.out; have := Z29.out; have := Z34.out; have := Z52.out; first | omega | exact Nat.le_refl _⟩, ⟨by (with_reducible repeat (first | apply Kd.V_alloc | apply Kd.V_drewN | apply Kd.V_drew)); exact Z15.out⟩, ⟨by (with_reducible repeat (first | apply Kd.N_alloc | apply Kd.N_drewN | apply Kd.N_drew)); exact Z53.out⟩, ⟨by (with_reducible repeat (first | apply Kd.V_alloc | apply Kd.V_drewN | apply Kd.V_drew)); exact Z16.out⟩, ⟨bk Z10⟩, ⟨bq⟩⟩
              case rest =>
               clear Z56
               try clear Z55
               try clear Z22
               try clear Z23
               try clear Z24
               try clear Z43
               try clear Z44
               try clear Z45
               try clear Z25
               try clear Z26
               try clear Z27
               try clear Z46
               try clear Z47
               try clear Z48
               obtain ⟨kq, Z57, rfl, HA, Z58, Z15, Z53, Z16, Z10, HB⟩ := hcut
               cases kq with
               | zero => exact absurd HA.out (by simp [spec_ProbeHappen.j4])
               | succ Z59 =>
                have H := HA.out
                clear HA
                simp only [spec_ProbeHappen.j4] at H
                rcases ud H with ⟨rfl, Z60⟩ | ⟨rfl, Z60⟩ <;> have H := Z60
                ·by_cases Z61 : Z49.length < 3518437208883
                 ·rw [if_pos Z61] at H
                  have Z62 := ra Z61; clear Z61
                  obtain ⟨Z63, hy_⟩ : ∃ y_ : List (S32), y_ = (Z49 ++ [(⟨a1_1, l1_2⟩ : S32)]) := ⟨_, rfl⟩
                  replace H : (if Z51 = Z19 then (spec_ProbeHappen.l0 Z59 l0 Z19 Z63 true (wrap64 (Z51 + 1)) a1_0 a1_1 l1_2) else (if 0 ≤ Z51 then (if Z51 < (l0.length : Int) then (if Z63.length < 3518437208883 then (spec_ProbeHappen.l0 Z59 l0 Z19 (Z63 ++ [(⟨(rd_T32 l0 Z51).f0, (rd_T32 l0 Z51).f1⟩ : S32)]) true (wrap64 (Z51 + 1)) a1_0 a1_1 l1_2) else (none)) else (none)) else (none))) = some (r1, r2) := yh
                  have Z64 := ra hy_
                  clear hy_
                  rcases ed H with ⟨-, Z65, Z66, H⟩ | ⟨Z67, Z65, Z66, H⟩
                  ·have H' := ra H; clear H
                   have Z68 : wc.cell? ⟨Z8, 0, none⟩ = some (.bool a1_0) := (blk_cell Z10.out 0).trans rfl
                   have Z69 : wc.cell? ⟨Z8, 1, none⟩ = some (.string a1_1) := (blk_cell Z10.out 1).trans rfl
                   have Z70 : wc.cell? ⟨Z8, 2, none⟩ = some (.slice A1_2 l1_2.length c1_2) := (blk_cell Z10.out 2).trans rfl
                   have Z71 := blk_frozen Z10.out 0
                   have Z72 := blk_frozen Z10.out 1
                   have Z73 := blk_frozen Z10.out 2
                   go_wp2_with (first | ((with_reducible refine gate_builtin (b := .append) (xs := #[.tmp 74, .tmp 77]) rfl ?_); (try (refine gate_guard (by rfl) ?_; dsimp only)); at_builtin; refine Kd.N_append k32 (w0 := w) w.heap.size rfl (.tmp 74) (.tmp 77) 25 32 (.agg #[(.string ⟨#[]⟩), (.slice none 0 0)]) 40 rfl Tryz.underlying25 info32 rfl (by decide) (by omega) u7 Z49 (⟨a1_1, l1_2⟩ : S32) [.string a1_1, .slice A1_2 l1_2.length c1_2] (fun k_ => ((P0_ k_ ∨ P1_2_ k_) ∨ w.heap.size ≤ k_) ∧ k_ ≠ Z8) (fun k_ => ((fun k_ => ((P0_ k_ ∨ P1_2_ k_) ∨ w.heap.size ≤ k_) ∧ k_ ≠ Z8)) k_ ∧ some k_ ≠ (u7 : Value).ownBlock) rfl rfl ?aP (fun _ hk => hk) ?aF ?aO ?aB ?aS ?aL ?_; (case aP => exact (k32_mkF _ _ (⟨a1_1, l1_2⟩ : S32) (Kd.V_reads' (Kd.V_mono (ok' := (fun k_ => ((fun k_ => ((P0_ k_ ∨ P1_2_ k_) ∨ w.heap.size ≤ k_) ∧ k_ ≠ Z8)) k_ ∧ some k_ ≠ (u7 : Value).ownBlock)) (Z16.out) (fun k_ hk => ⟨⟨hk.1, hk.2.2⟩, hk.2.1⟩))).2.1 (Kd.V_F (Kd.V_mono (ok' := (fun k_ => ((fun k_ => ((P0_ k_ ∨ P1_2_ k_) ∨ w.heap.size ≤ k_) ∧ k_ ≠ Z8)) k_ ∧ some k_ ≠ (u7 : Value).ownBlock)) (Z16.out) (fun k_ hk => ⟨⟨hk.1, hk.2.2⟩, hk.2.1⟩))))); (case aB => exact bq); (case aF => exact (fun k_ hk => ⟨(.inr (Nat.le_trans (below_size bq) hk)), Kd.freshB (g := Z8) (o := .cells #[.bool a1_0, .string a1_1, .slice A1_2 l1_2.length c1_2] 34 (0, 0)) (bk Z10) k_ hk⟩)); (case aO => exact (by (with_reducible repeat (first | apply Kd.N_alloc | apply Kd.N_drewN | apply Kd.N_drew)); exact Z53.out)); (case aS => exact (below_size bq)); (case aL => have := Z62.out; omega); intro Z74 Z75 ho hb hg hat; rw [← Z64.out] at ho; have _ := ra (Kd.V_afterv (ok := (fun k_ => ((P0_ k_ ∨ P1_2_ k_) ∨ w.heap.size ≤ k_) ∧ k_ ≠ Z8)) (vr (Kd.V_mono Z15.out (fun _ hk => ⟨⟨hk.1, hk.2.2⟩, hk.2.1⟩))) hg hat); have _ := ra (Kd.V_afterv (ok := (fun k_ => ((P0_ k_ ∨ P1_2_ k_) ∨ w.heap.size ≤ k_) ∧ k_ ≠ Z8)) (vr (Kd.V_mono Z16.out (fun _ hk => ⟨⟨hk.1, hk.2.2⟩, hk.2.1⟩))) hg hat); have _ := ra (blk_grown (g := Z8) (o := .cells #[.bool a1_0, .string a1_1, .slice A1_2 l1_2.length c1_2] 34 (0, 0)) (bk Z10) hg (Kd.N_ne Z53.out Z10.out (by decide))); have _ := ra (hb); have _ := ra (ho); clear Z15 Z16 Z10 HB Z53; rename_i Z15 Z16 Z10 HB Z76; clear ho hb hg hat))
                   repeat (go_quiet (first | ((with_reducible refine gate_builtin (b := .append) (xs := #[.tmp 74, .tmp 77]) rfl ?_); (try (refine gate_guard (by rfl) ?_; dsimp only)); at_builtin; refine Kd.N_append k32 (w0 := w) w.heap.size rfl (.tmp 74) (.tmp 77) 25 32 (.agg #[(.string ⟨#[]⟩), (.slice none 0 0)]) 40 rfl Tryz.underlying25 info32 rfl (by decide) (by omega) u7 Z49 (⟨a1_1, l1_2⟩ : S32) [.string a1_1, .slice A1_2 l1_2.length c1_2] (fun k_ => ((P0_ k_ ∨ P1_2_ k_) ∨ w.heap.size ≤ k_) ∧ k_ ≠ Z8) (fun k_ => ((fun k_ => ((P0_ k_ ∨ P1_2_ k_) ∨ w.heap.size ≤ k_) ∧ k_ ≠ Z8)) k_ ∧ some k_ ≠ (u7 : Value).ownBlock) rfl rfl ?aP (fun _ hk => hk) ?aF ?aO ?aB ?aS ?aL ?_; (case aP => exact (k32_mkF _ _ (⟨a1_1, l1_2⟩ : S32) (Kd.V_reads' (Kd.V_mono (ok' := (fun k_ => ((fun k_ => ((P0_ k_ ∨ P1_2_ k_) ∨ w.heap.size ≤ k_) ∧ k_ ≠ Z8)) k_ ∧ some k_ ≠ (u7 : Value).ownBlock)) (Z16.out) (fun k_ hk => ⟨⟨hk.1, hk.2.2⟩, hk.2.1⟩))).2.1 (Kd.V_F (Kd.V_mono (ok' := (fun k_ => ((fun k_ => ((P0_ k_ ∨ P1_2_ k_) ∨ w.heap.size ≤ k_) ∧ k_ ≠ Z8)) k_ ∧ some k_ ≠ (u7 : Value).ownBlock)) (Z16.out) (fun k_ hk => ⟨⟨hk.1, hk.2.2⟩, hk.2.1⟩))))); (case aB => exact bq); (case aF => exact (fun k_ hk => ⟨(.inr (Nat.le_trans (below_size bq) hk)), Kd.freshB (g := Z8) (o := .cells #[.bool a1_0, .string a1_1, .slice A1_2 l1_2.length c1_2] 34 (0, 0)) (bk Z10) k_ hk⟩)); (case aO => exact (by (with_reducible repeat (first | apply Kd.N_alloc | apply Kd.N_drewN | apply Kd.N_drew)); exact Z53.out)); (case aS => exact (below_size bq)); (case aL => have := Z62.out; omega); intro Z74 Z75 ho hb hg hat; rw [← Z64.out] at ho; have _ := ra (Kd.V_afterv (ok := (fun k_ => ((P0_ k_ ∨ P1_2_ k_) ∨ w.heap.size ≤ k_) ∧ k_ ≠ Z8)) (vr (Kd.V_mono Z15.out (fun _ hk => ⟨⟨hk.1, hk.2.2⟩, hk.2.1⟩))) hg hat); have _ := ra (Kd.V_afterv (ok := (fun k_ => ((P0_ k_ ∨ P1_2_ k_) ∨ w.heap.size ≤ k_) ∧ k_ ≠ Z8)) (vr (Kd.V_mono Z16.out (fun _ hk => ⟨⟨hk.1, hk.2.2⟩, hk.2.1⟩))) hg hat); have _ := ra (blk_grown (g := Z8) (o := .cells #[.bool a1_0, .string a1_1, .slice A1_2 l1_2.length c1_2] 34 (0, 0)) (bk Z10) hg (Kd.N_ne Z53.out Z10.out (by decide))); have _ := ra (hb); have _ := ra (ho); clear Z15 Z16 Z10 HB Z53; rename_i Z15 Z16 Z10 HB Z76; clear ho hb hg hat)); try go_wp2_with (first | ((with_reducible refine gate_builtin (b := .append) (xs := #[.tmp 74, .tmp 77]) rfl ?_); (try (refine gate_guard (by rfl) ?_; dsimp only)); at_builtin; refine Kd.N_append k32 (w0 := w) w.heap.size rfl (.tmp 74) (.tmp 77) 25 32 (.agg #[(.string ⟨#[]⟩), (.slice none 0 0)]) 40 rfl Tryz.underlying25 info32 rfl (by decide) (by omega) u7 Z49 (⟨a1_1, l1_2⟩ : S32) [.string a1_1, .slice A1_2 l1_2.length c1_2] (fun k_ => ((P0_ k_ ∨ P1_2_ k_) ∨ w.heap.size ≤ k_) ∧ k_ ≠ Z8) (fun k_ => ((fun k_ => ((P0_ k_ ∨ P1_2_ k_) ∨ w.heap.size ≤ k_) ∧ k_ ≠ Z8)) k_ ∧ some k_ ≠ (u7 : Value).ownBlock) rfl rfl ?aP (fun _ hk => hk) ?aF ?aO ?aB ?aS ?aL ?_; (case aP => exact (k32_mkF _ _ (⟨a1_1, l1_2⟩ : S32) (Kd.V_reads' (Kd.V_mono (ok' := (fun k_ => ((fun k_ => ((P0_ k_ ∨ P1_2_ k_) ∨ w.heap.size ≤ k_) ∧ k_ ≠ Z8)) k_ ∧ some k_ ≠ (u7 : Value).ownBlock)) (Z16.out) (fun k_ hk => ⟨⟨hk.1, hk.2.2⟩, hk.2.1⟩))).2.1 (Kd.V_F (Kd.V_mono (ok' := (fun k_ => ((fun k_ => ((P0_ k_ ∨ P1_2_ k_) ∨ w.heap.size ≤ k_) ∧ k_ ≠ Z8)) k_ ∧ some k_ ≠ (u7 : Value).ownBlock)) (Z16.out) (fun k_ hk => ⟨⟨hk.1, hk.2.2⟩, hk.2.1⟩))))); (case aB => exact bq); (case aF => exact (fun k_ hk => ⟨(.inr (Nat.le_trans (below_size bq) hk)), Kd.freshB (g := Z8) (o := .cells #[.bool a1_0, .string a1_1, .slice A1_2 l1_2.length c1_2] 34 (0, 0)) (bk Z10) k_ hk⟩)); (case aO => exact (by (with_reducible repeat (first | apply Kd.N_alloc | apply Kd.N_drewN | apply Kd.N_drew)); exact Z53.out)); (case aS => exact (below_size bq)); (case aL => have := Z62.out; omega); intro Z74 Z75 ho hb hg hat; rw [← Z64.out] at ho; have _ := ra (Kd.V_afterv (ok := (fun k_ => ((P0_ k_ ∨ P1_2_ k_) ∨ w.heap.size ≤ k_) ∧ k_ ≠ Z8)) (vr (Kd.V_mono Z15.out (fun _ hk => ⟨⟨hk.1, hk.2.2⟩, hk.2.1⟩))) hg hat); have _ := ra (Kd.V_afterv (ok := (fun k_ => ((P0_ k_ ∨ P1_2_ k_) ∨ w.heap.size ≤ k_) ∧ k_ ≠ Z8)) (vr (Kd.V_mono Z16.out (fun _ hk => ⟨⟨hk.1, hk.2.2⟩, hk.2.1⟩))) hg hat); have _ := ra (blk_grown (g := Z8) (o := .cells #[.bool a1_0, .string a1_1, .slice A1_2 l1_2.length c1_2] 34 (0, 0)) (bk Z10) hg (Kd.N_ne Z53.out Z10.out (by decide))); have _ := ra (hb); have _ := ra (ho); clear Z15 Z16 Z10 HB Z53; rename_i Z15 Z16 Z10 HB Z76; clear ho hb hg hat)))
                   go_roundg Z59
                   case measure => have := Z14.out; have := Z29.out; have := Z34.out; have := Z52.out; have := Z58.out; omega
                   case rel => exact ⟨(Z63), (true), (wrap64 (Z51 + 1)), rs, rs, H', ⟨by have := Z14.out; have := Z29.out; have := Z34.out; have := Z52.out; have := Z58.out; omega⟩, ⟨by (with_reducible repeat (first | apply Kd.V_alloc | apply Kd.V_drewN | apply Kd.V_drew)); exact Kd.V_mono Z15.out (fun _ hk => ⟨hk.1.1, ⟨hk.2, hk.1.2⟩⟩)⟩, ⟨by (with_reducible repeat (first | apply Kd.N_alloc | apply Kd.N_drewN | apply Kd.N_drew)); exact Z76.out⟩, ⟨by (with_reducible repeat (first | apply Kd.V_alloc | apply Kd.V_drewN | apply Kd.V_drew)); exact Kd.V_mono Z16.out (fun _ hk => ⟨hk.1.1, ⟨hk.2, hk.1.2⟩⟩)⟩, ⟨bk Z10⟩, ⟨bq⟩⟩
                  ·obtain ⟨Z68, H⟩ := tn H
                   obtain ⟨Z69, H⟩ := tn H
                   by_cases Z70 : Z63.length < 3518437208883
                   ·rw [if_pos Z70] at H
                    have Z71 := ra Z70; clear Z70
                    obtain ⟨Z72, hy_⟩ : ∃ y_ : List (S32), y_ = (Z63 ++ [(⟨(rd_T32 l0 Z51).f0, (rd_T32 l0 Z51).f1⟩ : S32)]) := ⟨_, rfl⟩
                    replace H : (spec_ProbeHappen.l0 Z59 l0 Z19 Z72 true (wrap64 (Z51 + 1)) a1_0 a1_1 l1_2) = some (r1, r2) := yh
                    have Z73 := ra hy_
                    clear hy_
                    have H' := ra H; clear H
                    have Z74 : wc.cell? ⟨Z8, 0, none⟩ = some (.bool a1_0) := (blk_cell Z10.out 0).trans rfl
                    have Z75 : wc.cell? ⟨Z8, 1, none⟩ = some (.string a1_1) := (blk_cell Z10.out 1).trans rfl
                    have Z76 : wc.cell? ⟨Z8, 2, none⟩ = some (.slice A1_2 l1_2.length c1_2) := (blk_cell Z10.out 2).trans rfl
                    have Z77 := blk_frozen Z10.out 0
                    have Z78 := blk_frozen Z10.out 1
                    have Z79 := blk_frozen Z10.out 2
                    go_wp2_with (first | ((with_reducible refine gate_builtin (b := .append) (xs := #[.tmp 74, .tmp 77]) rfl ?_); (try (refine gate_guard (by rfl) ?_; dsimp only)); at_builtin; refine Kd.N_append k32 (w0 := w) w.heap.size rfl (.tmp 74) (.tmp 77) 25 32 (.agg #[(.string ⟨#[]⟩), (.slice none 0 0)]) 40 rfl Tryz.underlying25 info32 rfl (by decide) (by omega) u7 Z49 (⟨a1_1, l1_2⟩ : S32) [.string a1_1, .slice A1_2 l1_2.length c1_2] (fun k_ => ((P0_ k_ ∨ P1_2_ k_) ∨ w.heap.size ≤ k_) ∧ k_ ≠ Z8) (fun k_ => ((fun k_ => ((P0_ k_ ∨ P1_2_ k_) ∨ w.heap.size ≤ k_) ∧ k_ ≠ Z8)) k_ ∧ some k_ ≠ (u7 : Value).ownBlock) rfl rfl ?aP (fun _ hk => hk) ?aF ?aO ?aB ?aS ?aL ?_; (case aP => exact (k32_mkF _ _ (⟨a1_1, l1_2⟩ : S32) (Kd.V_reads' (Kd.V_mono (ok' := (fun k_ => ((fun k_ => ((P0_ k_ ∨ P1_2_ k_) ∨ w.heap.size ≤ k_) ∧ k_ ≠ Z8)) k_ ∧ some k_ ≠ (u7 : Value).ownBlock)) (Z16.out) (fun k_ hk => ⟨⟨hk.1, hk.2.2⟩, hk.2.1⟩))).2.1 (Kd.V_F (Kd.V_mono (ok' := (fun k_ => ((fun k_ => ((P0_ k_ ∨ P1_2_ k_) ∨ w.heap.size ≤ k_) ∧ k_ ≠ Z8)) k_ ∧ some k_ ≠ (u7 : Value).ownBlock)) (Z16.out) (fun k_ hk => ⟨⟨hk.1, hk.2.2⟩, hk.2.1⟩))))); (case aB => exact bq); (case aF => exact (fun k_ hk => ⟨(.inr (Nat.le_trans (below_size bq) hk)), Kd.freshB (g := Z8) (o := .cells #[.bool a1_0, .string a1_1, .slice A1_2 l1_2.length c1_2] 34 (0, 0)) (bk Z10) k_ hk⟩)); (case aO => exact (by (with_reducible repeat (first | apply Kd.N_alloc | apply Kd.N_drewN | apply Kd.N_drew)); exact Z53.out)); (case aS => exact (below_size bq)); (case aL => have := Z62.out; omega); intro Z80 Z81 ho hb hg hat; rw [← Z64.out] at ho; have _ := ra (Kd.V_afterv (ok := (fun k_ => ((P0_ k_ ∨ P1_2_ k_) ∨ w.heap.size ≤ k_) ∧ k_ ≠ Z8)) (vr (Kd.V_mono Z15.out (fun _ hk => ⟨⟨hk.1, hk.2.2⟩, hk.2.1⟩))) hg hat); have _ := ra (Kd.V_afterv (ok := (fun k_ => ((P0_ k_ ∨ P1_2_ k_) ∨ w.heap.size ≤ k_) ∧ k_ ≠ Z8)) (vr (Kd.V_mono Z16.out (fun _ hk => ⟨⟨hk.1, hk.2.2⟩, hk.2.1⟩))) hg hat); have _ := ra (blk_grown (g := Z8) (o := .cells #[.bool a1_0, .string a1_1, .slice A1_2 l1_2.length c1_2] 34 (0, 0)) (bk Z10) hg (Kd.N_ne Z53.out Z10.out (by decide))); have _ := ra (hb); have _ := ra (ho); clear Z15 Z16 Z10 HB Z53; rename_i Z15 Z16 Z10 HB Z82; clear ho hb hg hat; have Z83 : 0 ≤ (Z51 : Int) := od; have Z84 : Z51 < (l0.length : Int) := od; obtain ⟨Z85, Z86, Z87, Z88, Z89, Z90, Z91, Z92⟩ := at_T32 (Kd.V_reads' Z15.out).2.2 Z51 Z83 Z84; cases Z88; obtain ⟨Z93, Z94, Z95, Z96⟩ := Kd.V_get Z15.out z32 Z51 Z83 (by first | exact Z84 | exact od | (have e_ := (Kd.V_reads' Z15.out).1; omega)); obtain ⟨Z97, Z98, rfl, Z99, Z100⟩ := k32_openF Z95; have Z101 := Z96 1 _ rfl; rw [add_field _ _ 1 (by omega)] at Z101; replace Z101 := Option.some.inj (Z101.symm.trans Z90); injection Z101 with hva_ hvn_ hvc_; rw [hva_] at Z100; rw [hvc_] at Z99; have Z102 := ra (show Kd.V k75 75 _ w.heap.size _ _ ((rd_T32 l0 Z51).f1) from Kd.V_mk Z99 Z100); clear hva_ hvn_ hvc_ Z100 Z99; clear Z96 Z94; have Z103 := Aside0.mk Z92; have Z104 := Aside0.mk Z91; clear Z92 Z91; replace Z83 := eq_true Z83; replace Z84 := eq_true Z84) | ((with_reducible refine gate_builtin (b := .append) (xs := #[.tmp 82, .tmp 87]) rfl ?_); (try (refine gate_guard (by rfl) ?_; dsimp only)); at_builtin; refine Kd.N_append k32 (w0 := w) w.heap.size rfl (.tmp 82) (.tmp 87) 25 32 (.agg #[(.string ⟨#[]⟩), (.slice none 0 0)]) 40 rfl Tryz.underlying25 info32 rfl (by decide) (by omega) Z80 Z63 (⟨(rd_T32 l0 Z51).f0, (rd_T32 l0 Z51).f1⟩ : S32) [.string ((rd_T32 l0 Z51).f0), .slice Z86 ((rd_T32 l0 Z51).f1).length Z87] (fun k_ => ((P0_ k_ ∨ P1_2_ k_) ∨ w.heap.size ≤ k_) ∧ k_ ≠ Z8) (fun k_ => ((fun k_ => ((P0_ k_ ∨ P1_2_ k_) ∨ w.heap.size ≤ k_) ∧ k_ ≠ Z8)) k_ ∧ some k_ ≠ (Z80 : Value).ownBlock) rfl rfl ?aP (fun _ hk => hk) ?aF ?aO ?aB ?aS ?aL ?_; (case aP => exact (k32_mkF _ _ (⟨(rd_T32 l0 Z51).f0, (rd_T32 l0 Z51).f1⟩ : S32) (Kd.V_reads' (Kd.V_mono (ok' := (fun k_ => ((fun k_ => ((P0_ k_ ∨ P1_2_ k_) ∨ w.heap.size ≤ k_) ∧ k_ ≠ Z8)) k_ ∧ some k_ ≠ (Z80 : Value).ownBlock)) (Z102.out) (fun k_ hk => ⟨⟨hk.1.1, hk.1.2⟩, hk.2⟩))).2.1 (Kd.V_F (Kd.V_mono (ok' := (fun k_ => ((fun k_ => ((P0_ k_ ∨ P1_2_ k_) ∨ w.heap.size ≤ k_) ∧ k_ ≠ Z8)) k_ ∧ some k_ ≠ (Z80 : Value).ownBlock)) (Z102.out) (fun k_ hk => ⟨⟨hk.1.1, hk.1.2⟩, hk.2⟩))))); (case aB => exact bq); (case aF => exact (fun k_ hk => ⟨(.inr (Nat.le_trans (below_size bq) hk)), Kd.freshB (g := Z8) (o := .cells #[.bool a1_0, .string a1_1, .slice A1_2 l1_2.length c1_2] 34 (0, 0)) (bk Z10) k_ hk⟩)); (case aO => exact (by (with_reducible repeat (first | apply Kd.N_alloc | apply Kd.N_drewN | apply Kd.N_drew)); exact Z82.out)); (case aS => exact (below_size bq)); (case aL => have := Z71.out; omega); intro Z105 Z106 ho hb hg hat; rw [← Z73.out] at ho; have _ := ra (Kd.V_afterv (ok := (fun k_ => ((P0_ k_ ∨ P1_2_ k_) ∨ w.heap.size ≤ k_) ∧ k_ ≠ Z8)) (vq Z15) hg hat); have _ := ra (Kd.V_afterv (ok := (fun k_ => ((P0_ k_ ∨ P1_2_ k_) ∨ w.heap.size ≤ k_) ∧ k_ ≠ Z8)) (vq Z16) hg hat); have _ := ra (blk_grown (g := Z8) (o := .cells #[.bool a1_0, .string a1_1, .slice A1_2 l1_2.length c1_2] 34 (0, 0)) (bk Z10) hg (Kd.N_ne Z82.out Z10.out (by decide))); have _ := ra (Kd.V_afterv (ok := (fun k_ => ((P0_ k_ ∨ P1_2_ k_) ∨ w.heap.size ≤ k_) ∧ k_ ≠ Z8)) (vq Z102) hg hat); have _ := ra (hb); have _ := ra (ho); clear Z15 Z16 Z10 Z102 HB Z82; rename_i Z15 Z16 Z10 Z102 HB Z107; clear ho hb hg hat))
                    repeat (go_quiet (first | ((with_reducible refine gate_builtin (b := .append) (xs := #[.tmp 74, .tmp 77]) rfl ?_); (try (refine gate_guard (by rfl) ?_; dsimp only)); at_builtin; refine Kd.N_append k32 (w0 := w) w.heap.size rfl (.tmp 74) (.tmp 77) 25 32 (.agg #[(.string ⟨#[]⟩), (.slice none 0 0)]) 40 rfl Tryz.underlying25 info32 rfl (by decide) (by omega) u7 Z49 (⟨a1_1, l1_2⟩ : S32) [.string a1_1, .slice A1_2 l1_2.length c1_2] (fun k_ => ((P0_ k_ ∨ P1_2_ k_) ∨ w.heap.size ≤ k_) ∧ k_ ≠ Z8) (fun k_ => ((fun k_ => ((P0_ k_ ∨ P1_2_ k_) ∨ w.heap.size ≤ k_) ∧ k_ ≠ Z8)) k_ ∧ some k_ ≠ (u7 : Value).ownBlock) rfl rfl ?aP (fun _ hk => hk) ?aF ?aO ?aB ?aS ?aL ?_; (case aP => exact (k32_mkF _ _ (⟨a1_1, l1_2⟩ : S32) (Kd.V_reads' (Kd.V_mono (ok' := (fun k_ => ((fun k_ => ((P0_ k_ ∨ P1_2_ k_) ∨ w.heap.size ≤ k_) ∧ k_ ≠ Z8)) k_ ∧ some k_ ≠ (u7 : Value).ownBlock)) (Z16.out) (fun k_ hk => ⟨⟨hk.1, hk.2.2⟩, hk.2.1⟩))).2.1 (Kd.V_F (Kd.V_mono (ok' := (fun k_ => ((fun k_ => ((P0_ k_ ∨ P1_2_ k_) ∨ w.heap.size ≤ k_) ∧ k_ ≠ Z8)) k_ ∧ some k_ ≠ (u7 : Value).ownBlock)) (Z16.out) (fun k_ hk => ⟨⟨hk.1, hk.2.2⟩, hk.2.1⟩))))); (case aB => exact bq); (case aF => exact (fun k_ hk => ⟨(.inr (Nat.le_trans (below_size bq) hk)), Kd.freshB (g := Z8) (o := .cells #[.bool a1_0, .string a1_1, .slice A1_2 l1_2.length c1_2] 34 (0, 0)) (bk Z10) k_ hk⟩)); (case aO => exact (by (with_reducible repeat (first | apply Kd.N_alloc | apply Kd.N_drewN | apply Kd.N_drew)); exact Z53.out)); (case aS => exact (below_size bq)); (case aL => have := Z62.out; omega); intro Z80 Z81 ho hb hg hat; rw [← Z64.out] at ho; have _ := ra (Kd.V_afterv (ok := (fun k_ => ((P0_ k_ ∨ P1_2_ k_) ∨ w.heap.size ≤ k_) ∧ k_ ≠ Z8)) (vr (Kd.V_mono Z15.out (fun _ hk => ⟨⟨hk.1, hk.2.2⟩, hk.2.1⟩))) hg hat); have _ := ra (Kd.V_afterv (ok := (fun k_ => ((P0_ k_ ∨ P1_2_ k_) ∨ w.heap.size ≤ k_) ∧ k_ ≠ Z8)) (vr (Kd.V_mono Z16.out (fun _ hk => ⟨⟨hk.1, hk.2.2⟩, hk.2.1⟩))) hg hat); have _ := ra (blk_grown (g := Z8) (o := .cells #[.bool a1_0, .string a1_1, .slice A1_2 l1_2.length c1_2] 34 (0, 0)) (bk Z10) hg (Kd.N_ne Z53.out Z10.out (by decide))); have _ := ra (hb); have _ := ra (ho); clear Z15 Z16 Z10 HB Z53; rename_i Z15 Z16 Z10 HB Z82; clear ho hb hg hat; have Z83 : 0 ≤ (Z51 : Int) := od; have Z84 : Z51 < (l0.length : Int) := od; obtain ⟨Z85, Z86, Z87, Z88, Z89, Z90, Z91, Z92⟩ := at_T32 (Kd.V_reads' Z15.out).2.2 Z51 Z83 Z84; cases Z88; obtain ⟨Z93, Z94, Z95, Z96⟩ := Kd.V_get Z15.out z32 Z51 Z83 (by first | exact Z84 | exact od | (have e_ := (Kd.V_reads' Z15.out).1; omega)); obtain ⟨Z97, Z98, rfl, Z99, Z100⟩ := k32_openF Z95; have Z101 := Z96 1 _ rfl; rw [add_field _ _ 1 (by omega)] at Z101; replace Z101 := Option.some.inj (Z101.symm.trans Z90); injection Z101 with hva_ hvn_ hvc_; rw [hva_] at Z100; rw [hvc_] at Z99; have Z102 := ra (show Kd.V k75 75 _ w.heap.size _ _ ((rd_T32 l0 Z51).f1) from Kd.V_mk Z99 Z100); clear hva_ hvn_ hvc_ Z100 Z99; clear Z96 Z94; have Z103 := Aside0.mk Z92; have Z104 := Aside0.mk Z91; clear Z92 Z91; replace Z83 := eq_true Z83; replace Z84 := eq_true Z84) | ((with_reducible refine gate_builtin (b := .append) (xs := #[.tmp 82, .tmp 87]) rfl ?_); (try (refine gate_guard (by rfl) ?_; dsimp only)); at_builtin; refine Kd.N_append k32 (w0 := w) w.heap.size rfl (.tmp 82) (.tmp 87) 25 32 (.agg #[(.string ⟨#[]⟩), (.slice none 0 0)]) 40 rfl Tryz.underlying25 info32 rfl (by decide) (by omega) Z80 Z63 (⟨(rd_T32 l0 Z51).f0, (rd_T32 l0 Z51).f1⟩ : S32) [.string ((rd_T32 l0 Z51).f0), .slice Z86 ((rd_T32 l0 Z51).f1).length Z87] (fun k_ => ((P0_ k_ ∨ P1_2_ k_) ∨ w.heap.size ≤ k_) ∧ k_ ≠ Z8) (fun k_ => ((fun k_ => ((P0_ k_ ∨ P1_2_ k_) ∨ w.heap.size ≤ k_) ∧ k_ ≠ Z8)) k_ ∧ some k_ ≠ (Z80 : Value).ownBlock) rfl rfl ?aP (fun _ hk => hk) ?aF ?aO ?aB ?aS ?aL ?_; (case aP => exact (k32_mkF _ _ (⟨(rd_T32 l0 Z51).f0, (rd_T32 l0 Z51).f1⟩ : S32) (Kd.V_reads' (Kd.V_mono (ok' := (fun k_ => ((fun k_ => ((P0_ k_ ∨ P1_2_ k_) ∨ w.heap.size ≤ k_) ∧ k_ ≠ Z8)) k_ ∧ some k_ ≠ (Z80 : Value).ownBlock)) (Z102.out) (fun k_ hk => ⟨⟨hk.1.1, hk.1.2⟩, hk.2⟩))).2.1 (Kd.V_F (Kd.V_mono (ok' := (fun k_ => ((fun k_ => ((P0_ k_ ∨ P1_2_ k_) ∨ w.heap.size ≤ k_) ∧ k_ ≠ Z8)) k_ ∧ some k_ ≠ (Z80 : Value).ownBlock)) (Z102.out) (fun k_ hk => ⟨⟨hk.1.1, hk.1.2⟩, hk.2⟩))))); (case aB => exact bq); (case aF => exact (fun k_ hk => ⟨(.inr (Nat.le_trans (below_size bq) hk)), Kd.freshB (g := Z8) (o := .cells #[.bool a1_0, .string a1_1, .slice A1_2 l1_2.length c1_2] 34 (0, 0)) (bk Z10) k_ hk⟩)); (case aO => exact (by (with_reducible repeat (first | apply Kd.N_alloc | apply Kd.N_drewN | apply Kd.N_drew)); exact Z82.out)); (case aS => exact (below_size bq)); (case aL => have := Z71.out; omega); intro Z105 Z106 ho hb hg hat; rw [← Z73.out] at ho; have _ := ra (Kd.V_afterv (ok := (fun k_ => ((P0_ k_ ∨ P1_2_ k_) ∨ w.heap.size ≤ k_) ∧ k_ ≠ Z8)) (vq Z15) hg hat); have _ := ra (Kd.V_afterv (ok := (fun k_ => ((P0_ k_ ∨ P1_2_ k_) ∨ w.heap.size ≤ k_) ∧ k_ ≠ Z8)) (vq Z16) hg hat); have _ := ra (blk_grown (g := Z8) (o := .cells #[.bool a1_0, .string a1_1, .slice A1_2 l1_2.length c1_2] 34 (0, 0)) (bk Z10) hg (Kd.N_ne Z82.out Z10.out (by decide))); have _ := ra (Kd.V_afterv (ok := (fun k_ => ((P0_ k_ ∨ P1_2_ k_) ∨ w.heap.size ≤ k_) ∧ k_ ≠ Z8)) (vq Z102) hg hat); have _ := ra (hb); have _ := ra (ho); clear Z15 Z16 Z10 Z102 HB Z82; rename_i Z15 Z16 Z10 Z102 HB Z107; clear ho hb hg hat)); try go_wp2_with (first | ((with_reducible refine gate_builtin (b := .append) (xs := #[.tmp 74, .tmp 77]) rfl ?_); (try (refine gate_guard (by rfl) ?_; dsimp only)); at_builtin; refine Kd.N_append k32 (w0 := w) w.heap.size rfl (.tmp 74) (.tmp 77) 25 32 (.agg #[(.string ⟨#[]⟩), (.slice none 0 0)]) 40 rfl Tryz.underlying25 info32 rfl (by decide) (by omega) u7 Z49 (⟨a1_1, l1_2⟩ : S32) [.string a1_1, .slice A1_2 l1_2.length c1_2] (fun k_ => ((P0_ k_ ∨ P1_2_ k_) ∨ w.heap.size ≤ k_) ∧ k_ ≠ Z8) (fun k_ => ((fun k_ => ((P0_ k_ ∨ P1_2_ k_) ∨ w.heap.size ≤ k_) ∧ k_ ≠ Z8)) k_ ∧ some k_ ≠ (u7 : Value).ownBlock) rfl rfl ?aP (fun _ hk => hk) ?aF ?aO ?aB ?aS ?aL ?_; (case aP => exact (k32_mkF _ _ (⟨a1_1, l1_2⟩ : S32) (Kd.V_reads' (Kd.V_mono (ok' := (fun k_ => ((fun k_ => ((P0_ k_ ∨ P1_2_ k_) ∨ w.heap.size ≤ k_) ∧ k_ ≠ Z8)) k_ ∧ some k_ ≠ (u7 : Value).ownBlock)) (Z16.out) (fun k_ hk => ⟨⟨hk.1, hk.2.2⟩, hk.2.1⟩))).2.1 (Kd.V_F (Kd.V_mono (ok' := (fun k_ => ((fun k_ => ((P0_ k_ ∨ P1_2_ k_) ∨ w.heap.size ≤ k_) ∧ k_ ≠ Z8)) k_ ∧ some k_ ≠ (u7 : Value).ownBlock)) (Z16.out) (fun k_ hk => ⟨⟨hk.1, hk.2.2⟩, hk.2.1⟩))))); (case aB => exact bq); (case aF => exact (fun k_ hk => ⟨(.inr (Nat.le_trans (below_size bq) hk)), Kd.freshB (g := Z8) (o := .cells #[.bool a1_0, .string a1_1, .slice A1_2 l1_2.length c1_2] 34 (0, 0)) (bk Z10) k_ hk⟩)); (case aO => exact (by (with_reducible repeat (first | apply Kd.N_alloc | apply Kd.N_drewN | apply Kd.N_drew)); exact Z53.out)); (case aS => exact (below_size bq)); (case aL => have := Z62.out; omega); intro Z80 Z81 ho hb hg hat; rw [← Z64.out] at ho; have _ := ra (Kd.V_afterv (ok := (fun k_ => ((P0_ k_ ∨ P1_2_ k_) ∨ w.heap.size ≤ k_) ∧ k_ ≠ Z8)) (vr (Kd.V_mono Z15.out (fun _ hk => ⟨⟨hk.1, hk.2.2⟩, hk.2.1⟩))) hg hat); have _ := ra (Kd.V_afterv (ok := (fun k_ => ((P0_ k_ ∨ P1_2_ k_) ∨ w.heap.size ≤ k_) ∧ k_ ≠ Z8)) (vr (Kd.V_mono Z16.out (fun _ hk => ⟨⟨hk.1, hk.2.2⟩, hk.2.1⟩))) hg hat); have _ := ra (blk_grown (g := Z8) (o := .cells #[.bool a1_0, .string a1_1, .slice A1_2 l1_2.length c1_2] 34 (0, 0)) (bk Z10) hg (Kd.N_ne Z53.out Z10.out (by decide))); have _ := ra (hb); have _ := ra (ho); clear Z15 Z16 Z10 HB Z53; rename_i Z15 Z16 Z10 HB Z82; clear ho hb hg hat; have Z83 : 0 ≤ (Z51 : Int) := od; have Z84 : Z51 < (l0.length : Int) := od; obtain ⟨Z85, Z86, Z87, Z88, Z89, Z90, Z91, Z92⟩ := at_T32 (Kd.V_reads' Z15.out).2.2 Z51 Z83 Z84; cases Z88; obtain ⟨Z93, Z94, Z95, Z96⟩ := Kd.V_get Z15.out z32 Z51 Z83 (by first | exact Z84 | exact od | (have e_ := (Kd.V_reads' Z15.out).1; omega)); obtain ⟨Z97, Z98, rfl, Z99, Z100⟩ := k32_openF Z95; have Z101 := Z96 1 _ rfl; rw [add_field _ _ 1 (by omega)] at Z101; replace Z101 := Option.some.inj (Z101.symm.trans Z90); injection Z101 with hva_ hvn_ hvc_; rw [hva_] at Z100; rw [hvc_] at Z99; have Z102 := ra (show Kd.V k75 75 _ w.heap.size _ _ ((rd_T32 l0 Z51).f1) from Kd.V_mk Z99 Z100); clear hva_ hvn_ hvc_ Z100 Z99; clear Z96 Z94; have Z103 := Aside0.mk Z92; have Z104 := Aside0.mk Z91; clear Z92 Z91; replace Z83 := eq_true Z83; replace Z84 := eq_true Z84) | ((with_reducible refine gate_builtin (b := .append) (xs := #[.tmp 82, .tmp 87]) rfl ?_); (try (refine gate_guard (by rfl) ?_; dsimp only)); at_builtin; refine Kd.N_append k32 (w0 := w) w.heap.size rfl (.tmp 82) (.tmp 87) 25 32 (.agg #[(.string ⟨#[]⟩), (.slice none 0 0)]) 40 rfl Tryz.underlying25 info32 rfl (by decide) (by omega) Z80 Z63 (⟨(rd_T32 l0 Z51).f0, (rd_T32 l0 Z51).f1⟩ : S32) [.string ((rd_T32 l0 Z51).f0), .slice Z86 ((rd_T32 l0 Z51).f1).length Z87] (fun k_ => ((P0_ k_ ∨ P1_2_ k_) ∨ w.heap.size ≤ k_) ∧ k_ ≠ Z8) (fun k_ => ((fun k_ => ((P0_ k_ ∨ P1_2_ k_) ∨ w.heap.size ≤ k_) ∧ k_ ≠ Z8)) k_ ∧ some k_ ≠ (Z80 : Value).ownBlock) rfl rfl ?aP (fun _ hk => hk) ?aF ?aO ?aB ?aS ?aL ?_; (case aP => exact (k32_mkF _ _ (⟨(rd_T32 l0 Z51).f0, (rd_T32 l0 Z51).f1⟩ : S32) (Kd.V_reads' (Kd.V_mono (ok' := (fun k_ => ((fun k_ => ((P0_ k_ ∨ P1_2_ k_) ∨ w.heap.size ≤ k_) ∧ k_ ≠ Z8)) k_ ∧ some k_ ≠ (Z80 : Value).ownBlock)) (Z102.out) (fun k_ hk => ⟨⟨hk.1.1, hk.1.2⟩, hk.2⟩))).2.1 (Kd.V_F (Kd.V_mono (ok' := (fun k_ => ((fun k_ => ((P0_ k_ ∨ P1_2_ k_) ∨ w.heap.size ≤ k_) ∧ k_ ≠ Z8)) k_ ∧ some k_ ≠ (Z80 : Value).ownBlock)) (Z102.out) (fun k_ hk => ⟨⟨hk.1.1, hk.1.2⟩, hk.2⟩))))); (case aB => exact bq); (case aF => exact (fun k_ hk => ⟨(.inr (Nat.le_trans (below_size bq) hk)), Kd.freshB (g := Z8) (o := .cells #[.bool a1_0, .string a1_1, .slice A1_2 l1_2.length c1_2] 34 (0, 0)) (bk Z10) k_ hk⟩)); (case aO => exact (by (with_reducible repeat (first | apply Kd.N_alloc | apply Kd.N_drewN | apply Kd.N_drew)); exact Z82.out)); (case aS => exact (below_size bq)); (case aL => have := Z71.out; omega); intro Z105 Z106 ho hb hg hat; rw [← Z73.out] at ho; have _ := ra (Kd.V_afterv (ok := (fun k_ => ((P0_ k_ ∨ P1_2_ k_) ∨ w.heap.size ≤ k_) ∧ k_ ≠ Z8)) (vq Z15) hg hat); have _ := ra (Kd.V_afterv (ok := (fun k_ => ((P0_ k_ ∨ P1_2_ k_) ∨ w.heap.size ≤ k_) ∧ k_ ≠ Z8)) (vq Z16) hg hat); have _ := ra (blk_grown (g := Z8) (o := .cells #[.bool a1_0, .string a1_1, .slice A1_2 l1_2.length c1_2] 34 (0, 0)) (bk Z10) hg (Kd.N_ne Z82.out Z10.out (by decide))); have _ := ra (Kd.V_afterv (ok := (fun k_ => ((P0_ k_ ∨ P1_2_ k_) ∨ w.heap.size ≤ k_) ∧ k_ ≠ Z8)) (vq Z102) hg hat); have _ := ra (hb); have _ := ra (ho); clear Z15 Z16 Z10 Z102 HB Z82; rename_i Z15 Z16 Z10 Z102 HB Z107; clear ho hb hg hat)))
                    go_roundg Z59
                    case measure => have := Z14.out; have := Z29.out; have := Z34.out; have := Z52.out; have := Z58.out; omega
                    case rel => exact ⟨(Z72), (true), (wrap64 (Z51 + 1)), rs, rs, H', ⟨by have := Z14.out; have := Z29.out; have := Z34.out; have := Z52.out; have := Z58.out; omega⟩, ⟨by (with_reducible repeat (first | apply Kd.V_alloc | apply Kd.V_drewN | apply Kd.V_drew)); exact Kd.V_mono Z15.out (fun _ hk => ⟨hk.1.1, ⟨hk.2, hk.1.2⟩⟩)⟩, ⟨by (with_reducible repeat (first | apply Kd.N_alloc | apply Kd.N_drewN | apply Kd.N_drew)); exact Z107.out⟩, ⟨by (with_reducible repeat (first | apply Kd.V_alloc | apply Kd.V_drewN | apply Kd.V_drew)); exact Kd.V_mono Z16.out (fun _ hk => ⟨hk.1.1, ⟨hk.2, hk.1.2⟩⟩)⟩, ⟨bk Z10⟩, ⟨bq⟩⟩
                   ·rw [if_neg Z70] at H
                    exact absurd H (by simp)
                 ·rw [if_neg Z61] at H
                  exact absurd H (by simp)
                ·rcases ed H with ⟨-, Z61, Z62, H⟩ | ⟨Z63, Z61, Z62, H⟩
                 ·have H' := ra H; clear H
                  go_wp2
                  repeat (go_quiet (fail); try go_wp2)
                  go_roundg Z59
                  case measure => have := Z14.out; have := Z29.out; have := Z34.out; have := Z52.out; have := Z58.out; omega
                  case rel => exact ⟨(Z49), (Z50), (wrap64 (Z51 + 1)), rs, rs, H', ⟨by have := Z14.out; have := Z29.out; have := Z34.out; have := Z52.out; have := Z58.out; omega⟩, ⟨by (with_reducible repeat (first | apply Kd.V_alloc | apply Kd.V_drewN | apply Kd.V_drew)); exact Z15.out⟩, ⟨by (with_reducible repeat (first | apply Kd.N_alloc | apply Kd.N_drewN | apply Kd.N_drew)); exact Z53.out⟩, ⟨by (with_reducible repeat (first | apply Kd.V_alloc | apply Kd.V_drewN | apply Kd.V_drew)); exact Z16.out⟩, ⟨bk Z10⟩, ⟨bq⟩⟩
                 ·obtain ⟨Z64, H⟩ := tn H
                  obtain ⟨Z65, H⟩ := tn H
                  by_cases Z66 : Z49.length < 3518437208883
                  ·rw [if_pos Z66] at H
                   have Z67 := ra Z66; clear Z66
                   obtain ⟨Z68, hy_⟩ : ∃ y_ : List (S32), y_ = (Z49 ++ [(⟨(rd_T32 l0 Z51).f0, (rd_T32 l0 Z51).f1⟩ : S32)]) := ⟨_, rfl⟩
                   replace H : (spec_ProbeHappen.l0 Z59 l0 Z19 Z68 Z50 (wrap64 (Z51 + 1)) a1_0 a1_1 l1_2) = some (r1, r2) := yh
                   have Z69 := ra hy_
                   clear hy_
                   have H' := ra H; clear H
                   have Z70 : 0 ≤ (Z51 : Int) := od
                   have Z71 : Z51 < (l0.length : Int) := od
                   obtain ⟨Z72, Z73, Z74, Z75, Z76, Z77, Z78, Z79⟩ := at_T32 (Kd.V_reads' Z15.out).2.2 Z51 Z70 Z71
                   cases Z75
                   obtain ⟨Z80, Z81, Z82, Z83⟩ := Kd.V_get Z15.out z32 Z51 Z70 (by first | exact Z71 | exact od | (have e_ := (Kd.V_reads' Z15.out).1; omega))
                   obtain ⟨Z84, Z85, rfl, Z86, Z87⟩ := k32_openF Z82
                   have Z88 := Z83 1 _ rfl
                   rw [add_field _ _ 1 (by omega)] at Z88
                   replace Z88 := Option.some.inj (Z88.symm.trans Z77)
                   injection Z88 with hva_ hvn_ hvc_
                   rw [hva_] at Z87
                   rw [hvc_] at Z86
                   have Z89 := ra (show Kd.V k75 75 _ w.heap.size _ _ ((rd_T32 l0 Z51).f1) from Kd.V_mk Z86 Z87)
                   clear hva_ hvn_ hvc_ Z87 Z86
                   clear Z83 Z81
                   have Z90 := ra Z79
                   have Z91 := ra Z78
                   clear Z79 Z78
                   replace Z70 := eq_true Z70
                   replace Z71 := eq_true Z71
                   go_wp2_with (first | ((with_reducible refine gate_builtin (b := .append) (xs := #[.tmp 82, .tmp 87]) rfl ?_); (try (refine gate_guard (by rfl) ?_; dsimp only)); at_builtin; refine Kd.N_append k32 (w0 := w) w.heap.size rfl (.tmp 82) (.tmp 87) 25 32 (.agg #[(.string ⟨#[]⟩), (.slice none 0 0)]) 40 rfl Tryz.underlying25 info32 rfl (by decide) (by omega) u7 Z49 (⟨(rd_T32 l0 Z51).f0, (rd_T32 l0 Z51).f1⟩ : S32) [.string ((rd_T32 l0 Z51).f0), .slice Z73 ((rd_T32 l0 Z51).f1).length Z74] (fun k_ => ((P0_ k_ ∨ P1_2_ k_) ∨ w.heap.size ≤ k_) ∧ k_ ≠ Z8) (fun k_ => ((fun k_ => ((P0_ k_ ∨ P1_2_ k_) ∨ w.heap.size ≤ k_) ∧ k_ ≠ Z8)) k_ ∧ some k_ ≠ (u7 : Value).ownBlock) rfl rfl ?aP (fun _ hk => hk) ?aF ?aO ?aB ?aS ?aL ?_; (case aP => exact (k32_mkF _ _ (⟨(rd_T32 l0 Z51).f0, (rd_T32 l0 Z51).f1⟩ : S32) (Kd.V_reads' (Kd.V_mono (ok' := (fun k_ => ((fun k_ => ((P0_ k_ ∨ P1_2_ k_) ∨ w.heap.size ≤ k_) ∧ k_ ≠ Z8)) k_ ∧ some k_ ≠ (u7 : Value).ownBlock)) (Z89.out) (fun k_ hk => ⟨⟨hk.1, hk.2.2⟩, hk.2.1⟩))).2.1 (Kd.V_F (Kd.V_mono (ok' := (fun k_ => ((fun k_ => ((P0_ k_ ∨ P1_2_ k_) ∨ w.heap.size ≤ k_) ∧ k_ ≠ Z8)) k_ ∧ some k_ ≠ (u7 : Value).ownBlock)) (Z89.out) (fun k_ hk => ⟨⟨hk.1, hk.2.2⟩, hk.2.1⟩))))); (case aB => exact bq); (case aF => exact (fun k_ hk => ⟨(.inr (Nat.le_trans (below_size bq) hk)), Kd.freshB (g := Z8) (o := .cells #[.bool a1_0, .string a1_1, .slice A1_2 l1_2.length c1_2] 34 (0, 0)) (bk Z10) k_ hk⟩)); (case aO => exact (by (with_reducible repeat (first | apply Kd.N_alloc | apply Kd.N_drewN | apply Kd.N_drew)); exact Z53.out)); (case aS => exact (below_size bq)); (case aL => have := Z67.out; omega); intro Z92 Z93 ho hb hg hat; rw [← Z69.out] at ho; have _ := ra (Kd.V_afterv (ok := (fun k_ => ((P0_ k_ ∨ P1_2_ k_) ∨ w.heap.size ≤ k_) ∧ k_ ≠ Z8)) (vr (Kd.V_mono Z15.out (fun _ hk => ⟨⟨hk.1, hk.2.2⟩, hk.2.1⟩))) hg hat); have _ := ra (Kd.V_afterv (ok := (fun k_ => ((P0_ k_ ∨ P1_2_ k_) ∨ w.heap.size ≤ k_) ∧ k_ ≠ Z8)) (vr (Kd.V_mono Z16.out (fun _ hk => ⟨⟨hk.1, hk.2.2⟩, hk.2.1⟩))) hg hat); have _ := ra (blk_grown (g := Z8) (o := .cells #[.bool a1_0, .string a1_1, .slice A1_2 l1_2.length c1_2] 34 (0, 0)) (bk Z10) hg (Kd.N_ne Z53.out Z10.out (by decide))); have _ := ra (Kd.V_afterv (ok := (fun k_ => ((P0_ k_ ∨ P1_2_ k_) ∨ w.heap.size ≤ k_) ∧ k_ ≠ Z8)) (vr (Kd.V_mono Z89.out (fun _ hk => ⟨⟨hk.1, hk.2.2⟩, hk.2.1⟩))) hg hat); have _ := ra (hb); have _ := ra (ho); clear Z15 Z16 Z10 Z89 HB Z53; rename_i Z15 Z16 Z10 Z89 HB Z94; clear ho hb hg hat))
                   repeat (go_quiet (first | ((with_reducible refine gate_builtin (b := .append) (xs := #[.tmp 82, .tmp 87]) rfl ?_); (try (refine gate_guard (by rfl) ?_; dsimp only)); at_builtin; refine Kd.N_append k32 (w0 := w) w.heap.size rfl (.tmp 82) (.tmp 87) 25 32 (.agg #[(.string ⟨#[]⟩), (.slice none 0 0)]) 40 rfl Tryz.underlying25 info32 rfl (by decide) (by omega) u7 Z49 (⟨(rd_T32 l0 Z51).f0, (rd_T32 l0 Z51).f1⟩ : S32) [.string ((rd_T32 l0 Z51).f0), .slice Z73 ((rd_T32 l0 Z51).f1).length Z74] (fun k_ => ((P0_ k_ ∨ P1_2_ k_) ∨ w.heap.size ≤ k_) ∧ k_ ≠ Z8) (fun k_ => ((fun k_ => ((P0_ k_ ∨ P1_2_ k_) ∨ w.heap.size ≤ k_) ∧ k_ ≠ Z8)) k_ ∧ some k_ ≠ (u7 : Value).ownBlock) rfl rfl ?aP (fun _ hk => hk) ?aF ?aO ?aB ?aS ?aL ?_; (case aP => exact (k32_mkF _ _ (⟨(rd_T32 l0 Z51).f0, (rd_T32 l0 Z51).f1⟩ : S32) (Kd.V_reads' (Kd.V_mono (ok' := (fun k_ => ((fun k_ => ((P0_ k_ ∨ P1_2_ k_) ∨ w.heap.size ≤ k_) ∧ k_ ≠ Z8)) k_ ∧ some k_ ≠ (u7 : Value).ownBlock)) (Z89.out) (fun k_ hk => ⟨⟨hk.1, hk.2.2⟩, hk.2.1⟩))).2.1 (Kd.V_F (Kd.V_mono (ok' := (fun k_ => ((fun k_ => ((P0_ k_ ∨ P1_2_ k_) ∨ w.heap.size ≤ k_) ∧ k_ ≠ Z8)) k_ ∧ some k_ ≠ (u7 : Value).ownBlock)) (Z89.out) (fun k_ hk => ⟨⟨hk.1, hk.2.2⟩, hk.2.1⟩))))); (case aB => exact bq); (case aF => exact (fun k_ hk => ⟨(.inr (Nat.le_trans (below_size bq) hk)), Kd.freshB (g := Z8) (o := .cells #[.bool a1_0, .string a1_1, .slice A1_2 l1_2.length c1_2] 34 (0, 0)) (bk Z10) k_ hk⟩)); (case aO => exact (by (with_reducible repeat (first | apply Kd.N_alloc | apply Kd.N_drewN | apply Kd.N_drew)); exact Z53.out)); (case aS => exact (below_size bq)); (case aL => have := Z67.out; omega); intro Z92 Z93 ho hb hg hat; rw [← Z69.out] at ho; have _ := ra (Kd.V_afterv (ok := (fun k_ => ((P0_ k_ ∨ P1_2_ k_) ∨ w.heap.size ≤ k_) ∧ k_ ≠ Z8)) (vr (Kd.V_mono Z15.out (fun _ hk => ⟨⟨hk.1, hk.2.2⟩, hk.2.1⟩))) hg hat); have _ := ra (Kd.V_afterv (ok := (fun k_ => ((P0_ k_ ∨ P1_2_ k_) ∨ w.heap.size ≤ k_) ∧ k_ ≠ Z8)) (vr (Kd.V_mono Z16.out (fun _ hk => ⟨⟨hk.1, hk.2.2⟩, hk.2.1⟩))) hg hat); have _ := ra (blk_grown (g := Z8) (o := .cells #[.bool a1_0, .string a1_1, .slice A1_2 l1_2.length c1_2] 34 (0, 0)) (bk Z10) hg (Kd.N_ne Z53.out Z10.out (by decide))); have _ := ra (Kd.V_afterv (ok := (fun k_ => ((P0_ k_ ∨ P1_2_ k_) ∨ w.heap.size ≤ k_) ∧ k_ ≠ Z8)) (vr (Kd.V_mono Z89.out (fun _ hk => ⟨⟨hk.1, hk.2.2⟩, hk.2.1⟩))) hg hat); have _ := ra (hb); have _ := ra (ho); clear Z15 Z16 Z10 Z89 HB Z53; rename_i Z15 Z16 Z10 Z89 HB Z94; clear ho hb hg hat)); try go_wp2_with (first | ((with_reducible refine gate_builtin (b := .append) (xs := #[.tmp 82, .tmp 87]) rfl ?_); (try (refine gate_guard (by rfl) ?_; dsimp only)); at_builtin; refine Kd.N_append k32 (w0 := w) w.heap.size rfl (.tmp 82) (.tmp 87) 25 32 (.agg #[(.string ⟨#[]⟩), (.slice none 0 0)]) 40 rfl Tryz.underlying25 info32 rfl (by decide) (by omega) u7 Z49 (⟨(rd_T32 l0 Z51).f0, (rd_T32 l0 Z51).f1⟩ : S32) [.string ((rd_T32 l0 Z51).f0), .slice Z73 ((rd_T32 l0 Z51).f1).length Z74] (fun k_ => ((P0_ k_ ∨ P1_2_ k_) ∨ w.heap.size ≤ k_) ∧ k_ ≠ Z8) (fun k_ => ((fun k_ => ((P0_ k_ ∨ P1_2_ k_) ∨ w.heap.size ≤ k_) ∧ k_ ≠ Z8)) k_ ∧ some k_ ≠ (u7 : Value).ownBlock) rfl rfl ?aP (fun _ hk => hk) ?aF ?aO ?aB ?aS ?aL ?_; (case aP => exact (k32_mkF _ _ (⟨(rd_T32 l0 Z51).f0, (rd_T32 l0 Z51).f1⟩ : S32) (Kd.V_reads' (Kd.V_mono (ok' := (fun k_ => ((fun k_ => ((P0_ k_ ∨ P1_2_ k_) ∨ w.heap.size ≤ k_) ∧ k_ ≠ Z8)) k_ ∧ some k_ ≠ (u7 : Value).ownBlock)) (Z89.out) (fun k_ hk => ⟨⟨hk.1, hk.2.2⟩, hk.2.1⟩))).2.1 (Kd.V_F (Kd.V_mono (ok' := (fun k_ => ((fun k_ => ((P0_ k_ ∨ P1_2_ k_) ∨ w.heap.size ≤ k_) ∧ k_ ≠ Z8)) k_ ∧ some k_ ≠ (u7 : Value).ownBlock)) (Z89.out) (fun k_ hk => ⟨⟨hk.1, hk.2.2⟩, hk.2.1⟩))))); (case aB => exact bq); (case aF => exact (fun k_ hk => ⟨(.inr (Nat.le_trans (below_size bq) hk)), Kd.freshB (g := Z8) (o := .cells #[.bool a1_0, .string a1_1, .slice A1_2 l1_2.length c1_2] 34 (0, 0)) (bk Z10) k_ hk⟩)); (case aO => exact (by (with_reducible repeat (first | apply Kd.N_alloc | apply Kd.N_drewN | apply Kd.N_drew)); exact Z53.out)); (case aS => exact (below_size bq)); (case aL => have := Z67.out; omega); intro Z92 Z93 ho hb hg hat; rw [← Z69.out] at ho; have _ := ra (Kd.V_afterv (ok := (fun k_ => ((P0_ k_ ∨ P1_2_ k_) ∨ w.heap.size ≤ k_) ∧ k_ ≠ Z8)) (vr (Kd.V_mono Z15.out (fun _ hk => ⟨⟨hk.1, hk.2.2⟩, hk.2.1⟩))) hg hat); have _ := ra (Kd.V_afterv (ok := (fun k_ => ((P0_ k_ ∨ P1_2_ k_) ∨ w.heap.size ≤ k_) ∧ k_ ≠ Z8)) (vr (Kd.V_mono Z16.out (fun _ hk => ⟨⟨hk.1, hk.2.2⟩, hk.2.1⟩))) hg hat); have _ := ra (blk_grown (g := Z8) (o := .cells #[.bool a1_0, .string a1_1, .slice A1_2 l1_2.length c1_2] 34 (0, 0)) (bk Z10) hg (Kd.N_ne Z53.out Z10.out (by decide))); have _ := ra (Kd.V_afterv (ok := (fun k_ => ((P0_ k_ ∨ P1_2_ k_) ∨ w.heap.size ≤ k_) ∧ k_ ≠ Z8)) (vr (Kd.V_mono Z89.out (fun _ hk => ⟨⟨hk.1, hk.2.2⟩, hk.2.1⟩))) hg hat); have _ := ra (hb); have _ := ra (ho); clear Z15 Z16 Z10 Z89 HB Z53; rename_i Z15 Z16 Z10 Z89 HB Z94; clear ho hb hg hat)))
                   go_roundg Z59
                   case measure => have := Z14.out; have := Z29.out; have := Z34.out; have := Z52.out; have := Z58.out; omega
                   case rel => exact ⟨(Z68), (Z50), (wrap64 (Z51 + 1)), rs, rs, H', ⟨by have := Z14.out; have := Z29.out; have := Z34.out; have := Z52.out; have := Z58.out; omega⟩, ⟨by (with_reducible repeat (first | apply Kd.V_alloc | apply Kd.V_drewN | apply Kd.V_drew)); exact Kd.V_mono Z15.out (fun _ hk => ⟨hk.1.1, ⟨hk.2, hk.1.2⟩⟩)⟩, ⟨by (with_reducible repeat (first | apply Kd.N_alloc | apply Kd.N_drewN | apply Kd.N_drew)); exact Z94.out⟩, ⟨by (with_reducible repeat (first | apply Kd.V_alloc | apply Kd.V_drewN | apply Kd.V_drew)); exact Kd.V_mono Z16.out (fun _ hk => ⟨hk.1.1, ⟨hk.2, hk.1.2⟩⟩)⟩, ⟨bk Z10⟩, ⟨bq⟩⟩
                  ·rw [if_neg Z66] at H
                   exact absurd H (by simp)
             ·rcases ud H with ⟨rfl, Z56⟩ | ⟨rfl, Z56⟩ <;> have H := Z56
              ·obtain ⟨Z57, Z58, H⟩ := bo H
               simp only [Option.some.injEq, Prod.mk.injEq] at H
               obtain ⟨rfl, rfl⟩ := H
               obtain ⟨Z59, Z60, Z61⟩ := Kd.N_slice Z53.out
               subst Z61
               go_wp2_with (first | (go_at_call 46; (with_reducible refine (spec_l2List.calls _ _ _ _ _ _ ?side1 ?side2 Z58.out).mono ?_); (case side1 => repeat (first | exact (Kd.N_reads' Z53.out).2.2 | (with_reducible refine Kd.C_alloc ?_ _) | (with_reducible refine Kd.C_drewN ?_ _) | (with_reducible refine Kd.C_drew ?_))); (case side2 => exact (Kd.N_reads' Z53.out).2.1); rintro e Z62 ⟨Z63, rfl, Z64, hb⟩; have Z65 := ra (Kd.S_lower Z64 (below_size (by repeat (first | (with_reducible first | exact HB.out | apply below_alloc | apply pw_below_drewN | apply below_drew1 | refine below_set ?_ (Aside0.out (by assumption))) | exact HB.out)))); have Z66 := ra (Kd.N_lower (Kd.N_mono (ok' := fun k_ => ((P0_ k_ ∨ P1_2_ k_) ∨ w.heap.size ≤ k_) ∧ some k_ ≠ (.slice Z59 Z49.length Z60 : Value).ownBlock ∧ k_ ≠ Z8) (Kd.S_N (Kd.S_bound Z64)) (fun k_ hk_ => ⟨(.inr (Nat.le_trans (below_size bq) hk_.2.1)), (Kd.fresh' (Kd.N_lt (by (with_reducible repeat (first | apply Kd.N_alloc | apply Kd.N_drewN | apply Kd.N_drew)); exact Z53.out)) k_ hk_.2.1), (Kd.freshB (g := Z8) (o := .cells #[.bool a1_0, .string a1_1, .slice A1_2 l1_2.length c1_2] 34 (0, 0)) (bk Z10) k_ hk_.2.1)⟩)) (below_size bq)); replace Z15 := ra (Kd.V_elder' (vq Z15) (Kd.S_base Z64) hb); replace Z53 := ra (Kd.N_elder' (by (with_reducible repeat (first | apply Kd.N_alloc | apply Kd.N_drewN | apply Kd.N_drew)); exact Z53.out) (Kd.S_base Z64) hb); replace Z16 := ra (Kd.V_elder' (vq Z16) (Kd.S_base Z64) hb); replace Z10 := bb (bk Z10) hb; replace HB := bs hb; clear hb Z64))
               repeat (go_quiet (first | (go_at_call 46; (with_reducible refine (spec_l2List.calls _ _ _ _ _ _ ?side1 ?side2 Z58.out).mono ?_); (case side1 => repeat (first | exact (Kd.N_reads' Z53.out).2.2 | (with_reducible refine Kd.C_alloc ?_ _) | (with_reducible refine Kd.C_drewN ?_ _) | (with_reducible refine Kd.C_drew ?_))); (case side2 => exact (Kd.N_reads' Z53.out).2.1); rintro e Z62 ⟨Z63, rfl, Z64, hb⟩; have Z65 := ra (Kd.S_lower Z64 (below_size (by repeat (first | (with_reducible first | exact HB.out | apply below_alloc | apply pw_below_drewN | apply below_drew1 | refine below_set ?_ (Aside0.out (by assumption))) | exact HB.out)))); have Z66 := ra (Kd.N_lower (Kd.N_mono (ok' := fun k_ => ((P0_ k_ ∨ P1_2_ k_) ∨ w.heap.size ≤ k_) ∧ some k_ ≠ (.slice Z59 Z49.length Z60 : Value).ownBlock ∧ k_ ≠ Z8) (Kd.S_N (Kd.S_bound Z64)) (fun k_ hk_ => ⟨(.inr (Nat.le_trans (below_size bq) hk_.2.1)), (Kd.fresh' (Kd.N_lt (by (with_reducible repeat (first | apply Kd.N_alloc | apply Kd.N_drewN | apply Kd.N_drew)); exact Z53.out)) k_ hk_.2.1), (Kd.freshB (g := Z8) (o := .cells #[.bool a1_0, .string a1_1, .slice A1_2 l1_2.length c1_2] 34 (0, 0)) (bk Z10) k_ hk_.2.1)⟩)) (below_size bq)); replace Z15 := ra (Kd.V_elder' (vq Z15) (Kd.S_base Z64) hb); replace Z53 := ra (Kd.N_elder' (by (with_reducible repeat (first | apply Kd.N_alloc | apply Kd.N_drewN | apply Kd.N_drew)); exact Z53.out) (Kd.S_base Z64) hb); replace Z16 := ra (Kd.V_elder' (vq Z16) (Kd.S_base Z64) hb); replace Z10 := bb (bk Z10) hb; replace HB := bs hb; clear hb Z64)); try go_wp2_with (first | (go_at_call 46; (with_reducible refine (spec_l2List.calls _ _ _ _ _ _ ?side1 ?side2 Z58.out).mono ?_); (case side1 => repeat (first | exact (Kd.N_reads' Z53.out).2.2 | (with_reducible refine Kd.C_alloc ?_ _) | (with_reducible refine Kd.C_drewN ?_ _) | (with_reducible refine Kd.C_drew ?_))); (case side2 => exact (Kd.N_reads' Z53.out).2.1); rintro e Z62 ⟨Z63, rfl, Z64, hb⟩; have Z65 := ra (Kd.S_lower Z64 (below_size (by repeat (first | (with_reducible first | exact HB.out | apply below_alloc | apply pw_below_drewN | apply below_drew1 | refine below_set ?_ (Aside0.out (by assumption))) | exact HB.out)))); have Z66 := ra (Kd.N_lower (Kd.N_mono (ok' := fun k_ => ((P0_ k_ ∨ P1_2_ k_) ∨ w.heap.size ≤ k_) ∧ some k_ ≠ (.slice Z59 Z49.length Z60 : Value).ownBlock ∧ k_ ≠ Z8) (Kd.S_N (Kd.S_bound Z64)) (fun k_ hk_ => ⟨(.inr (Nat.le_trans (below_size bq) hk_.2.1)), (Kd.fresh' (Kd.N_lt (by (with_reducible repeat (first | apply Kd.N_alloc | apply Kd.N_drewN | apply Kd.N_drew)); exact Z53.out)) k_ hk_.2.1), (Kd.freshB (g := Z8) (o := .cells #[.bool a1_0, .string a1_1, .slice A1_2 l1_2.length c1_2] 34 (0, 0)) (bk Z10) k_ hk_.2.1)⟩)) (below_size bq)); replace Z15 := ra (Kd.V_elder' (vq Z15) (Kd.S_base Z64) hb); replace Z53 := ra (Kd.N_elder' (by (with_reducible repeat (first | apply Kd.N_alloc | apply Kd.N_drewN | apply Kd.N_drew)); exact Z53.out) (Kd.S_base Z64) hb); replace Z16 := ra (Kd.V_elder' (vq Z16) (Kd.S_base Z64) hb); replace Z10 := bb (bk Z10) hb; replace HB := bs hb; clear hb Z64)))
               go_ret2
               exact ⟨_, re, by (with_reducible repeat (first | apply Kd.S_alloc | apply Kd.S_drewN | apply Kd.S_drew)); exact Z65.out, bq⟩
              ·by_cases Z57 : Z49.length < 3518437208883
               ·rw [if_pos Z57] at H
                have Z58 := ra Z57; clear Z57
                obtain ⟨Z59, hy_⟩ : ∃ y_ : List (S32), y_ = (Z49 ++ [(⟨a1_1, l1_2⟩ : S32)]) := ⟨_, rfl⟩
                replace H : ((spec_l2List.f Z54 Z59).bind fun t432 => (some (t432, 0))) = some (r1, r2) := yh
                have Z60 := ra hy_
                clear hy_
                obtain ⟨Z61, Z62, H⟩ := bo H
                simp only [Option.some.injEq, Prod.mk.injEq] at H
                obtain ⟨rfl, rfl⟩ := H
                have Z63 : wr.cell? ⟨Z8, 0, none⟩ = some (.bool a1_0) := (blk_cell Z10.out 0).trans rfl
                have Z64 : wr.cell? ⟨Z8, 1, none⟩ = some (.string a1_1) := (blk_cell Z10.out 1).trans rfl
                have Z65 : wr.cell? ⟨Z8, 2, none⟩ = some (.slice A1_2 l1_2.length c1_2) := (blk_cell Z10.out 2).trans rfl
                have Z66 := blk_frozen Z10.out 0
                have Z67 := blk_frozen Z10.out 1
                have Z68 := blk_frozen Z10.out 2
                go_wp2_with (first | ((with_reducible refine gate_builtin (b := .append) (xs := #[.tmp 91, .tmp 94]) rfl ?_); (try (refine gate_guard (by rfl) ?_; dsimp only)); at_builtin; refine Kd.N_append k32 (w0 := w) w.heap.size rfl (.tmp 91) (.tmp 94) 25 32 (.agg #[(.string ⟨#[]⟩), (.slice none 0 0)]) 40 rfl Tryz.underlying25 info32 rfl (by decide) (by omega) u7 Z49 (⟨a1_1, l1_2⟩ : S32) [.string a1_1, .slice A1_2 l1_2.length c1_2] (fun k_ => ((P0_ k_ ∨ P1_2_ k_) ∨ w.heap.size ≤ k_) ∧ k_ ≠ Z8) (fun k_ => ((fun k_ => ((P0_ k_ ∨ P1_2_ k_) ∨ w.heap.size ≤ k_) ∧ k_ ≠ Z8)) k_ ∧ some k_ ≠ (u7 : Value).ownBlock) rfl rfl ?aP (fun _ hk => hk) ?aF ?aO ?aB ?aS ?aL ?_; (case aP => exact (k32_mkF _ _ (⟨a1_1, l1_2⟩ : S32) (Kd.V_reads' (Kd.V_mono (ok' := (fun k_ => ((fun k_ => ((P0_ k_ ∨ P1_2_ k_) ∨ w.heap.size ≤ k_) ∧ k_ ≠ Z8)) k_ ∧ some k_ ≠ (u7 : Value).ownBlock)) (Z16.out) (fun k_ hk => ⟨⟨hk.1, hk.2.2⟩, hk.2.1⟩))).2.1 (Kd.V_F (Kd.V_mono (ok' := (fun k_ => ((fun k_ => ((P0_ k_ ∨ P1_2_ k_) ∨ w.heap.size ≤ k_) ∧ k_ ≠ Z8)) k_ ∧ some k_ ≠ (u7 : Value).ownBlock)) (Z16.out) (fun k_ hk => ⟨⟨hk.1, hk.2.2⟩, hk.2.1⟩))))); (case aB => exact bq); (case aF => exact (fun k_ hk => ⟨(.inr (Nat.le_trans (below_size bq) hk)), Kd.freshB (g := Z8) (o := .cells #[.bool a1_0, .string a1_1, .slice A1_2 l1_2.length c1_2] 34 (0, 0)) (bk Z10) k_ hk⟩)); (case aO => exact (by (with_reducible repeat (first | apply Kd.N_alloc | apply Kd.N_drewN | apply Kd.N_drew)); exact Z53.out)); (case aS => exact (below_size bq)); (case aL => have := Z58.out; omega); intro Z69 Z70 ho hb hg hat; rw [← Z60.out] at ho; have _ := ra (Kd.V_afterv (ok := (fun k_ => ((P0_ k_ ∨ P1_2_ k_) ∨ w.heap.size ≤ k_) ∧ k_ ≠ Z8)) (vr (Kd.V_mono Z15.out (fun _ hk => ⟨⟨hk.1, hk.2.2⟩, hk.2.1⟩))) hg hat); have _ := ra (Kd.V_afterv (ok := (fun k_ => ((P0_ k_ ∨ P1_2_ k_) ∨ w.heap.size ≤ k_) ∧ k_ ≠ Z8)) (vr (Kd.V_mono Z16.out (fun _ hk => ⟨⟨hk.1, hk.2.2⟩, hk.2.1⟩))) hg hat); have _ := ra (blk_grown (g := Z8) (o := .cells #[.bool a1_0, .string a1_1, .slice A1_2 l1_2.length c1_2] 34 (0, 0)) (bk Z10) hg (Kd.N_ne Z53.out Z10.out (by decide))); have _ := ra (hb); have _ := ra (ho); clear Z15 Z16 Z10 HB Z53; rename_i Z15 Z16 Z10 HB Z71; clear ho hb hg hat; obtain ⟨Z72, Z73, Z74⟩ := Kd.N_slice Z71.out; subst Z74) | (go_at_call 46; (with_reducible refine (spec_l2List.calls _ _ _ _ _ _ ?side1 ?side2 Z62.out).mono ?_); (case side1 => repeat (first | exact (Kd.N_reads' Z71.out).2.2 | (with_reducible refine Kd.C_alloc ?_ _) | (with_reducible refine Kd.C_drewN ?_ _) | (with_reducible refine Kd.C_drew ?_))); (case side2 => exact (Kd.N_reads' Z71.out).2.1); rintro e Z75 ⟨Z76, rfl, Z77, hb⟩; have Z78 := ra (Kd.S_lower Z77 (below_size (by repeat (first | (with_reducible first | exact HB.out | apply below_alloc | apply pw_below_drewN | apply below_drew1 | refine below_set ?_ (Aside0.out (by assumption))) | exact HB.out)))); have Z79 := ra (Kd.N_lower (Kd.N_mono (ok' := fun k_ => ((P0_ k_ ∨ P1_2_ k_) ∨ w.heap.size ≤ k_) ∧ some k_ ≠ (.slice Z72 Z59.length Z73 : Value).ownBlock ∧ k_ ≠ Z8) (Kd.S_N (Kd.S_bound Z77)) (fun k_ hk_ => ⟨(.inr (Nat.le_trans (below_size bq) hk_.2.1)), (Kd.fresh' (Kd.N_lt (by (with_reducible repeat (first | apply Kd.N_alloc | apply Kd.N_drewN | apply Kd.N_drew)); exact Z71.out)) k_ hk_.2.1), (Kd.freshB (g := Z8) (o := .cells #[.bool a1_0, .string a1_1, .slice A1_2 l1_2.length c1_2] 34 (0, 0)) (bk Z10) k_ hk_.2.1)⟩)) (below_size bq)); replace Z15 := ra (Kd.V_elder' (vq Z15) (Kd.S_base Z77) hb); replace Z16 := ra (Kd.V_elder' (vq Z16) (Kd.S_base Z77) hb); replace Z71 := ra (Kd.N_elder' (by (with_reducible repeat (first | apply Kd.N_alloc | apply Kd.N_drewN | apply Kd.N_drew)); exact Z71.out) (Kd.S_base Z77) hb); replace Z10 := bb (bk Z10) hb; replace HB := bs hb; clear hb Z77))
                repeat (go_quiet (first | ((with_reducible refine gate_builtin (b := .append) (xs := #[.tmp 91, .tmp 94]) rfl ?_); (try (refine gate_guard (by rfl) ?_; dsimp only)); at_builtin; refine Kd.N_append k32 (w0 := w) w.heap.size rfl (.tmp 91) (.tmp 94) 25 32 (.agg #[(.string ⟨#[]⟩), (.slice none 0 0)]) 40 rfl Tryz.underlying25 info32 rfl (by decide) (by omega) u7 Z49 (⟨a1_1, l1_2⟩ : S32) [.string a1_1, .slice A1_2 l1_2.length c1_2] (fun k_ => ((P0_ k_ ∨ P1_2_ k_) ∨ w.heap.size ≤ k_) ∧ k_ ≠ Z8) (fun k_ => ((fun k_ => ((P0_ k_ ∨ P1_2_ k_) ∨ w.heap.size ≤ k_) ∧ k_ ≠ Z8)) k_ ∧ some k_ ≠ (u7 : Value).ownBlock) rfl rfl ?aP (fun _ hk => hk) ?aF ?aO ?aB ?aS ?aL ?_; (case aP => exact (k32_mkF _ _ (⟨a1_1, l1_2⟩ : S32) (Kd.V_reads' (Kd.V_mono (ok' := (fun k_ => ((fun k_ => ((P0_ k_ ∨ P1_2_ k_) ∨ w.heap.size ≤ k_) ∧ k_ ≠ Z8)) k_ ∧ some k_ ≠ (u7 : Value).ownBlock)) (Z16.out) (fun k_ hk => ⟨⟨hk.1, hk.2.2⟩, hk.2.1⟩))).2.1 (Kd.V_F (Kd.V_mono (ok' := (fun k_ => ((fun k_ => ((P0_ k_ ∨ P1_2_ k_) ∨ w.heap.size ≤ k_) ∧ k_ ≠ Z8)) k_ ∧ some k_ ≠ (u7 : Value).ownBlock)) (Z16.out) (fun k_ hk => ⟨⟨hk.1, hk.2.2⟩, hk.2.1⟩))))); (case aB => exact bq); (case aF => exact (fun k_ hk => ⟨(.inr (Nat.le_trans (below_size bq) hk)), Kd.freshB (g := Z8) (o := .cells #[.bool a1_0, .string a1_1, .slice A1_2 l1_2.length c1_2] 34 (0, 0)) (bk Z10) k_ hk⟩)); (case aO => exact (by (with_reducible repeat (first | apply Kd.N_alloc | apply Kd.N_drewN | apply Kd.N_drew)); exact Z53.out)); (case aS => exact (below_size bq)); (case aL => have := Z58.out; omega); intro Z69 Z70 ho hb hg hat; rw [← Z60.out] at ho; have _ := ra (Kd.V_afterv (ok := (fun k_ => ((P0_ k_ ∨ P1_2_ k_) ∨ w.heap.size ≤ k_) ∧ k_ ≠ Z8)) (vr (Kd.V_mono Z15.out (fun _ hk => ⟨⟨hk.1, hk.2.2⟩, hk.2.1⟩))) hg hat); have _ := ra (Kd.V_afterv (ok := (fun k_ => ((P0_ k_ ∨ P1_2_ k_) ∨ w.heap.size ≤ k_) ∧ k_ ≠ Z8)) (vr (Kd.V_mono Z16.out (fun _ hk => ⟨⟨hk.1, hk.2.2⟩, hk.2.1⟩))) hg hat); have _ := ra (blk_grown (g := Z8) (o := .cells #[.bool a1_0, .string a1_1, .slice A1_2 l1_2.length c1_2] 34 (0, 0)) (bk Z10) hg (Kd.N_ne Z53.out Z10.out (by decide))); have _ := ra (hb); have _ := ra (ho); clear Z15 Z16 Z10 HB Z53; rename_i Z15 Z16 Z10 HB Z71; clear ho hb hg hat; obtain ⟨Z72, Z73, Z74⟩ := Kd.N_slice Z71.out; subst Z74) | (go_at_call 46; (with_reducible refine (spec_l2List.calls _ _ _ _ _ _ ?side1 ?side2 Z62.out).mono ?_); (case side1 => repeat (first | exact (Kd.N_reads' Z71.out).2.2 | (with_reducible refine Kd.C_alloc ?_ _) | (with_reducible refine Kd.C_drewN ?_ _) | (with_reducible refine Kd.C_drew ?_))); (case side2 => exact (Kd.N_reads' Z71.out).2.1); rintro e Z75 ⟨Z76, rfl, Z77, hb⟩; have Z78 := ra (Kd.S_lower Z77 (below_size (by repeat (first | (with_reducible first | exact HB.out | apply below_alloc | apply pw_below_drewN | apply below_drew1 | refine below_set ?_ (Aside0.out (by assumption))) | exact HB.out)))); have Z79 := ra (Kd.N_lower (Kd.N_mono (ok' := fun k_ => ((P0_ k_ ∨ P1_2_ k_) ∨ w.heap.size ≤ k_) ∧ some k_ ≠ (.slice Z72 Z59.length Z73 : Value).ownBlock ∧ k_ ≠ Z8) (Kd.S_N (Kd.S_bound Z77)) (fun k_ hk_ => ⟨(.inr (Nat.le_trans (below_size bq) hk_.2.1)), (Kd.fresh' (Kd.N_lt (by (with_reducible repeat (first | apply Kd.N_alloc | apply Kd.N_drewN | apply Kd.N_drew)); exact Z71.out)) k_ hk_.2.1), (Kd.freshB (g := Z8) (o := .cells #[.bool a1_0, .string a1_1, .slice A1_2 l1_2.length c1_2] 34 (0, 0)) (bk Z10) k_ hk_.2.1)⟩)) (below_size bq)); replace Z15 := ra (Kd.V_elder' (vq Z15) (Kd.S_base Z77) hb); replace Z16 := ra (Kd.V_elder' (vq Z16) (Kd.S_base Z77) hb); replace Z71 := ra (Kd.N_elder' (by (with_reducible repeat (first | apply Kd.N_alloc | apply Kd.N_drewN | apply Kd.N_drew)); exact Z71.out) (Kd.S_base Z77) hb); replace Z10 := bb (bk Z10) hb; replace HB := bs hb; clear hb Z77)); try go_wp2_with (first | ((with_reducible refine gate_builtin (b := .append) (xs := #[.tmp 91, .tmp 94]) rfl ?_); (try (refine gate_guard (by rfl) ?_; dsimp only)); at_builtin; refine Kd.N_append k32 (w0 := w) w.heap.size rfl (.tmp 91) (.tmp 94) 25 32 (.agg #[(.string ⟨#[]⟩), (.slice none 0 0)]) 40 rfl Tryz.underlying25 info32 rfl (by decide) (by omega) u7 Z49 (⟨a1_1, l1_2⟩ : S32) [.string a1_1, .slice A1_2 l1_2.length c1_2] (fun k_ => ((P0_ k_ ∨ P1_2_ k_) ∨ w.heap.size ≤ k_) ∧ k_ ≠ Z8) (fun k_ => ((fun k_ => ((P0_ k_ ∨ P1_2_ k_) ∨ w.heap.size ≤ k_) ∧ k_ ≠ Z8)) k_ ∧ some k_ ≠ (u7 : Value).ownBlock) rfl rfl ?aP (fun _ hk => hk) ?aF ?aO ?aB ?aS ?aL ?_; (case aP => exact (k32_mkF _ _ (⟨a1_1, l1_2⟩ : S32) (Kd.V_reads' (Kd.V_mono (ok' := (fun k_ => ((fun k_ => ((P0_ k_ ∨ P1_2_ k_) ∨ w.heap.size ≤ k_) ∧ k_ ≠ Z8)) k_ ∧ some k_ ≠ (u7 : Value).ownBlock)) (Z16.out) (fun k_ hk => ⟨⟨hk.1, hk.2.2⟩, hk.2.1⟩))).2.1 (Kd.V_F (Kd.V_mono (ok' := (fun k_ => ((fun k_ => ((P0_ k_ ∨ P1_2_ k_) ∨ w.heap.size ≤ k_) ∧ k_ ≠ Z8)) k_ ∧ some k_ ≠ (u7 : Value).ownBlock)) (Z16.out) (fun k_ hk => ⟨⟨hk.1, hk.2.2⟩, hk.2.1⟩))))); (case aB => exact bq); (case aF => exact (fun k_ hk => ⟨(.inr (Nat.le_trans (below_size bq) hk)), Kd.freshB (g := Z8) (o := .cells #[.bool a1_0, .string a1_1, .slice A1_2 l1_2.length c1_2] 34 (0, 0)) (bk Z10) k_ hk⟩)); (case aO => exact (by (with_reducible repeat (first | apply Kd.N_alloc | apply Kd.N_drewN | apply Kd.N_drew)); exact Z53.out)); (case aS => exact (below_size bq)); (case aL => have := Z58.out; omega); intro Z69 Z70 ho hb hg hat; rw [← Z60.out] at ho; have _ := ra (Kd.V_afterv (ok := (fun k_ => ((P0_ k_ ∨ P1_2_ k_) ∨ w.heap.size ≤ k_) ∧ k_ ≠ Z8)) (vr (Kd.V_mono Z15.out (fun _ hk => ⟨⟨hk.1, hk.2.2⟩, hk.2.1⟩))) hg hat); have _ := ra (Kd.V_afterv (ok := (fun k_ => ((P0_ k_ ∨ P1_2_ k_) ∨ w.heap.size ≤ k_) ∧ k_ ≠ Z8)) (vr (Kd.V_mono Z16.out (fun _ hk => ⟨⟨hk.1, hk.2.2⟩, hk.2.1⟩))) hg hat); have _ := ra (blk_grown (g := Z8) (o := .cells #[.bool a1_0, .string a1_1, .slice A1_2 l1_2.length c1_2] 34 (0, 0)) (bk Z10) hg (Kd.N_ne Z53.out Z10.out (by decide))); have _ := ra (hb); have _ := ra (ho); clear Z15 Z16 Z10 HB Z53; rename_i Z15 Z16 Z10 HB Z71; clear ho hb hg hat; obtain ⟨Z72, Z73, Z74⟩ := Kd.N_slice Z71.out; subst Z74) | (go_at_call 46; (with_reducible refine (spec_l2List.calls _ _ _ _ _ _ ?side1 ?side2 Z62.out).mono ?_); (case side1 => repeat (first | exact (Kd.N_reads' Z71.out).2.2 | (with_reducible refine Kd.C_alloc ?_ _) | (with_reducible refine Kd.C_drewN ?_ _) | (with_reducible refine Kd.C_drew ?_))); (case side2 => exact (Kd.N_reads' Z71.out).2.1); rintro e Z75 ⟨Z76, rfl, Z77, hb⟩; have Z78 := ra (Kd.S_lower Z77 (below_size (by repeat (first | (with_reducible first | exact HB.out | apply below_alloc | apply pw_below_drewN | apply below_drew1 | refine below_set ?_ (Aside0.out (by assumption))) | exact HB.out)))); have Z79 := ra (Kd.N_lower (Kd.N_mono (ok' := fun k_ => ((P0_ k_ ∨ P1_2_ k_) ∨ w.heap.size ≤ k_) ∧ some k_ ≠ (.slice Z72 Z59.length Z73 : Value).ownBlock ∧ k_ ≠ Z8) (Kd.S_N (Kd.S_bound Z77)) (fun k_ hk_ => ⟨(.inr (Nat.le_trans (below_size bq) hk_.2.1)), (Kd.fresh' (Kd.N_lt (by (with_reducible repeat (first | apply Kd.N_alloc | apply Kd.N_drewN | apply Kd.N_drew)); exact Z71.out)) k_ hk_.2.1), (Kd.freshB (g := Z8) (o := .cells #[.bool a1_0, .string a1_1, .slice A1_2 l1_2.length c1_2] 34 (0, 0)) (bk Z10) k_ hk_.2.1)⟩)) (below_size bq)); replace Z15 := ra (Kd.V_elder' (vq Z15) (Kd.S_base Z77) hb); replace Z16 := ra (Kd.V_elder' (vq Z16) (Kd.S_base Z77) hb); replace Z71 := ra (Kd.N_elder' (by (with_reducible repeat (first | apply Kd.N_alloc | apply Kd.N_drewN | apply Kd.N_drew)); exact Z71.out) (Kd.S_base Z77) hb); replace Z10 := bb (bk Z10) hb; replace HB := bs hb; clear hb Z77)))
                go_ret2
                exact ⟨_, re, by (with_reducible repeat (first | apply Kd.S_alloc | apply Kd.S_drewN | apply Kd.S_drew)); exact Z78.out, bq⟩
               ·rw [if_neg Z57] at H
                exact absurd H (by simp)
 ·obtain ⟨Z7, hy_⟩ : ∃ y_ : List (S32), y_ = (([] : List (S32))) := ⟨_, rfl⟩
  replace H : (some (Z7, 1)) = some (r1, r2) := yh
  have Z8 := ra hy_
  clear hy_
  simp only [Option.some.injEq, Prod.mk.injEq] at H
  obtain ⟨rfl, rfl⟩ := H
  go_enter Tryz.func8, Tryz.ntmps8
  go_wp2_with (first | ((with_reducible refine gd 3 rfl ?_); (try (refine gate_guard (by rfl) ?_; dsimp only)); refine bf 3 #[.bool a1_0, .string a1_1, .slice A1_2 l1_2.length c1_2] 34 ?_; intro Z9 Z10 hg hb HB Z11 Z12; replace Z2 := ra (Kd.V_below (Kd.V_elderB (vq Z2) Z9 (Nat.le_of_eq hg.symm)) hb); replace Z3 := ra (Kd.V_below (Kd.V_elderB (vq Z3) Z9 (Nat.le_of_eq hg.symm)) hb); clear hg hb) | (go_at_call 45; (with_reducible refine (spec_ProbeSkyOk.calls _ _ _ _ _ _ ?side1 ?side2 Z5.out).mono ?_); (case side1 => exact sv Z2); (case side2 => exact (Kd.V_reads' Z2.out).2.1); rintro e Z13 ⟨rfl, hb⟩; replace Z2 := ra (Kd.V_below (vq Z2) hb); replace Z3 := ra (Kd.V_below (vq Z3) hb); replace Z11 := bb (bk Z11) hb; replace HB := bs hb; clear hb) | ((with_reducible refine gd 13 rfl ?_); (try (refine gate_guard (by rfl) ?_; dsimp only)); refine Kd.N_lit k32 _ 32 ?hg (N' := 13) ?hd (xs := ([] : List (S32))) (inner := []) (ok := (fun k_ => ((P0_ k_ ∨ P1_2_ k_) ∨ w.heap.size ≤ k_) ∧ k_ ≠ Z9)) (okp := (fun k_ => ((P0_ k_ ∨ P1_2_ k_) ∨ w.heap.size ≤ k_) ∧ k_ ≠ Z9)) ?hr ?hp (fun _ hk => hk) ((show ∀ k_, Z13.heap.size ≤ k_ → (fun k_ => ((P0_ k_ ∨ P1_2_ k_) ∨ w.heap.size ≤ k_) ∧ k_ ≠ Z9) k_ from fun k_ hk => ⟨(.inr (Nat.le_trans (below_size bq) hk)), Kd.freshB (g := Z9) (o := .cells #[.bool a1_0, .string a1_1, .slice A1_2 l1_2.length c1_2] 34 (0, 0)) (bk Z11) k_ hk⟩) _ (Nat.le_refl _)) (Below.refl _ _) (Nat.le_refl _) (by simp) ?_; (case hd => rfl); (case hg => rfl); (case hr => first | (go_simp; done) | (go_simp; rfl)); (case hp => exact (Reps.none _ _)); intro Z14 Z15 Z16 hb hg_ hnew_; clear hg_ hnew_; (first | rw [← Z8.out] at Z16 | (simp only [Int.reduceToNat] at Z16; rw [← Z8.out] at Z16)); have Z17 := ra (Kd.N_lower Z16 (below_size bq)); replace Z2 := ra (Kd.V_elder' (vq Z2) (Kd.N_base Z16) hb); replace Z3 := ra (Kd.V_elder' (vq Z3) (Kd.N_base Z16) hb); replace Z11 := bb (bk Z11) hb; replace HB := bs hb; clear hb Z16))
  repeat (go_quiet (first | ((with_reducible refine gd 3 rfl ?_); (try (refine gate_guard (by rfl) ?_; dsimp only)); refine bf 3 #[.bool a1_0, .string a1_1, .slice A1_2 l1_2.length c1_2] 34 ?_; intro Z9 Z10 hg hb HB Z11 Z12; replace Z2 := ra (Kd.V_below (Kd.V_elderB (vq Z2) Z9 (Nat.le_of_eq hg.symm)) hb); replace Z3 := ra (Kd.V_below (Kd.V_elderB (vq Z3) Z9 (Nat.le_of_eq hg.symm)) hb); clear hg hb) | (go_at_call 45; (with_reducible refine (spec_ProbeSkyOk.calls _ _ _ _ _ _ ?side1 ?side2 Z5.out).mono ?_); (case side1 => exact sv Z2); (case side2 => exact (Kd.V_reads' Z2.out).2.1); rintro e Z13 ⟨rfl, hb⟩; replace Z2 := ra (Kd.V_below (vq Z2) hb); replace Z3 := ra (Kd.V_below (vq Z3) hb); replace Z11 := bb (bk Z11) hb; replace HB := bs hb; clear hb) | ((with_reducible refine gd 13 rfl ?_); (try (refine gate_guard (by rfl) ?_; dsimp only)); refine Kd.N_lit k32 _ 32 ?hg (N' := 13) ?hd (xs := ([] : List (S32))) (inner := []) (ok := (fun k_ => ((P0_ k_ ∨ P1_2_ k_) ∨ w.heap.size ≤ k_) ∧ k_ ≠ Z9)) (okp := (fun k_ => ((P0_ k_ ∨ P1_2_ k_) ∨ w.heap.size ≤ k_) ∧ k_ ≠ Z9)) ?hr ?hp (fun _ hk => hk) ((show ∀ k_, Z13.heap.size ≤ k_ → (fun k_ => ((P0_ k_ ∨ P1_2_ k_) ∨ w.heap.size ≤ k_) ∧ k_ ≠ Z9) k_ from fun k_ hk => ⟨(.inr (Nat.le_trans (below_size bq) hk)), Kd.freshB (g := Z9) (o := .cells #[.bool a1_0, .string a1_1, .slice A1_2 l1_2.length c1_2] 34 (0, 0)) (bk Z11) k_ hk⟩) _ (Nat.le_refl _)) (Below.refl _ _) (Nat.le_refl _) (by simp) ?_; (case hd => rfl); (case hg => rfl); (case hr => first | (go_simp; done) | (go_simp; rfl)); (case hp => exact (Reps.none _ _)); intro Z14 Z15 Z16 hb hg_ hnew_; clear hg_ hnew_; (first | rw [← Z8.out] at Z16 | (simp only [Int.reduceToNat] at Z16; rw [← Z8.out] at Z16)); have Z17 := ra (Kd.N_lower Z16 (below_size bq)); replace Z2 := ra (Kd.V_elder' (vq Z2) (Kd.N_base Z16) hb); replace Z3 := ra (Kd.V_elder' (vq Z3) (Kd.N_base Z16) hb); replace Z11 := bb (bk Z11) hb; replace HB := bs hb; clear hb Z16)); try go_wp2_with (first | ((with_reducible refine gd 3 rfl ?_); (try (refine gate_guard (by rfl) ?_; dsimp only)); refine bf 3 #[.bool a1_0, .string a1_1, .slice A1_2 l1_2.length c1_2] 34 ?_; intro Z9 Z10 hg hb HB Z11 Z12; replace Z2 := ra (Kd.V_below (Kd.V_elderB (vq Z2) Z9 (Nat.le_of_eq hg.symm)) hb); replace Z3 := ra (Kd.V_below (Kd.V_elderB (vq Z3) Z9 (Nat.le_of_eq hg.symm)) hb); clear hg hb) | (go_at_call 45; (with_reducible refine (spec_ProbeSkyOk.calls _ _ _ _ _ _ ?side1 ?side2 Z5.out).mono ?_); (case side1 => exact sv Z2); (case side2 => exact (Kd.V_reads' Z2.out).2.1); rintro e Z13 ⟨rfl, hb⟩; replace Z2 := ra (Kd.V_below (vq Z2) hb); replace Z3 := ra (Kd.V_below (vq Z3) hb); replace Z11 := bb (bk Z11) hb; replace HB := bs hb; clear hb) | ((with_reducible refine gd 13 rfl ?_); (try (refine gate_guard (by rfl) ?_; dsimp only)); refine Kd.N_lit k32 _ 32 ?hg (N' := 13) ?hd (xs := ([] : List (S32))) (inner := []) (ok := (fun k_ => ((P0_ k_ ∨ P1_2_ k_) ∨ w.heap.size ≤ k_) ∧ k_ ≠ Z9)) (okp := (fun k_ => ((P0_ k_ ∨ P1_2_ k_) ∨ w.heap.size ≤ k_) ∧ k_ ≠ Z9)) ?hr ?hp (fun _ hk => hk) ((show ∀ k_, Z13.heap.size ≤ k_ → (fun k_ => ((P0_ k_ ∨ P1_2_ k_) ∨ w.heap.size ≤ k_) ∧ k_ ≠ Z9) k_ from fun k_ hk => ⟨(.inr (Nat.le_trans (below_size bq) hk)), Kd.freshB (g := Z9) (o := .cells #[.bool a1_0, .string a1_1, .slice A1_2 l1_2.length c1_2] 34 (0, 0)) (bk Z11) k_ hk⟩) _ (Nat.le_refl _)) (Below.refl _ _) (Nat.le_refl _) (by simp) ?_; (case hd => rfl); (case hg => rfl); (case hr => first | (go_simp; done) | (go_simp; rfl)); (case hp => exact (Reps.none _ _)); intro Z14 Z15 Z16 hb hg_ hnew_; clear hg_ hnew_; (first | rw [← Z8.out] at Z16 | (simp only [Int.reduceToNat] at Z16; rw [← Z8.out] at Z16)); have Z17 := ra (Kd.N_lower Z16 (below_size bq)); replace Z2 := ra (Kd.V_elder' (vq Z2) (Kd.N_base Z16) hb); replace Z3 := ra (Kd.V_elder' (vq Z3) (Kd.N_base Z16) hb); replace Z11 := bb (bk Z11) hb; replace HB := bs hb; clear hb Z16)))
  go_ret2
  exact ⟨_, re, by (with_reducible repeat (first | apply Kd.S_alloc | apply Kd.S_drewN | apply Kd.S_drew)); have h_ := Z17.out; rw [Z8.out] at h_ ⊢; exact Z.N_nil_S h_, bq⟩
end Go.Proofs.YtgklmafdbgnohaaGreat.PA
