/- Contracts (began as prints of the kit's tool; shortened). No condition beside what the Lean functions say. -/
import Derived.Test.YtjelgpmhbaiipaaGreatDoorFPAd9
import Derived.Test.YtjelgpmhbaiipaaGreatDoorFZCx1
import Derived.Test.YtjelgpmhbaiipaaGreatDoorFZCv2
import Derived.Test.YtjelgpmhbaiipaaGreatDoorFG11
import Derived.Test.YtjelgpmhbaiipaaGreatDoorFZCy10
import Derived.Test.YtjelgpmhbaiipaaGreatDoorFG23
import Derived.Test.YtjelgpmhbaiipaaGreatDoorFZLb5
section
namespace Go.Proofs.YtjelgpmhbaiipaaGreatDoor.PA
open Go.RowKit Go.Proofs.YtjelgpmhbaiipaaGreatDoorW.PrintWords Go.Proofs.YtjelgpmhbaiipaaGreatDoorW.PrintLast Go.Proofs.YtjelgpmhbaiipaaGreatDoorW.PrintMore Go.Proofs.YtjelgpmhbaiipaaGreatDoor.Z
attribute [local go_sem] max2_int min2_int max_two min_two max_three min_three max_four min_four
set_option linter.unusedVariables false
set_option maxHeartbeats 8000000
set_option maxRecDepth 100000
set_option linter.unusedSimpArgs false
theorem impl_ProbeClose.calls (k : Nat) (a0_0 a0_1 a0_2 a0_3 a0_4 a0_5 a1_0 a1_1 a1_2 a1_3 a1_4 a1_5 r1 : Int) (r2 : Bool) (w : World) (h : impl_ProbeClose.f k a0_0 a0_1 a0_2 a0_3 a0_4 a0_5 a1_0 a1_1 a1_2 a1_3 a1_4 a1_5 = some (r1, r2)) :
  Calls Tryz.prog 62 #[.agg #[.int .i64 a0_0, .int .i64 a0_1, .int .i64 a0_2, .int .i64 a0_3, .int .i64 a0_4, .int .i64 a0_5], .agg #[.int .i64 a1_0, .int .i64 a1_1, .int .i64 a1_2, .int .i64 a1_3, .int .i64 a1_4, .int .i64 a1_5]] w fun e w' => e = .returned (.tuple #[.int .i64 r1, .bool r2]) ∧ Below w.heap.size w w' := by
 have Z0 := Tryz.underlying46
 have HB := ra (Below.refl w.heap.size w)
 have H := h; unfold impl_ProbeClose.f at H
 clear h
 have Z1 := ra H; clear H
 go_enter Tryz.func62, Tryz.ntmps62
 go_upto_region 1 with (first | ((with_reducible refine gd 2 rfl ?_); (try (refine gate_guard (by rfl) ?_; dsimp only)); refine bd 2 #[.int .i64 a0_0, .int .i64 a0_1, .int .i64 a0_2, .int .i64 a0_3, .int .i64 a0_4, .int .i64 a0_5] 46 ?_; intro Z2 Z3 HB Z4 Z5) | ((with_reducible refine gd 3 rfl ?_); (try (refine gate_guard (by rfl) ?_; dsimp only)); refine bf 3 #[.int .i64 a1_0, .int .i64 a1_1, .int .i64 a1_2, .int .i64 a1_3, .int .i64 a1_4, .int .i64 a1_5] 46 ?_; intro Z6 Z7 hg hb HB Z8 Z9; have Z10 := bn hg (bk Z4); have Z11 := bm hg (bk Z4); replace Z4 := bb (bk Z4) hb; clear hg hb))
 (try simp only [Act.put, List.setIfInBounds_toArray, List.set_cons_zero, List.set_cons_succ])
 go_cut [45] (fun v45 wc => ∃ (kq : Nat) (x45_2 : Bool), v45 = .bool x45_2 ∧ Aside0 (impl_ProbeClose.j0 kq x45_2 a0_0 a0_1 a0_2 a0_3 a0_4 a0_5 a1_0 a1_1 a1_2 a1_3 a1_4 a1_5 = some (r1, r2)) ∧ Aside0 (kq ≤ k) ∧ Aside0 (wc.heap[Z2]? = some (.cells #[.int .i64 a0_0, .int .i64 a0_1, .int .i64 a0_2, .int .i64 a0_3, .int .i64 a0_4, .int .i64 a0_5] 46 (0, 0))) ∧ Aside0 (wc.heap[Z6]? = some (.cells #[.int .i64 a1_0, .int .i64 a1_1, .int .i64 a1_2, .int .i64 a1_3, .int .i64 a1_4, .int .i64 a1_5] 46 (0, 0))) ∧ Aside0 (Below w.heap.size w wc))
 case first =>
  have H := Z1.out
  clear Z1
  obtain ⟨Z12, Z13, H⟩ := bo H
  rcases ud H with ⟨rfl, Z14⟩ | ⟨rfl, Z14⟩ <;> have H := Z14
  ·obtain ⟨Z15, Z16, H⟩ := bo H
   rcases ud H with ⟨rfl, Z17⟩ | ⟨rfl, Z17⟩ <;> have H := Z17
   ·obtain ⟨Z18, Z19, H⟩ := bo H
    rcases ud H with ⟨rfl, Z20⟩ | ⟨rfl, Z20⟩ <;> have H := Z20
    ·obtain ⟨Z21, Z22, H⟩ := bo H
     rcases ud H with ⟨rfl, Z23⟩ | ⟨rfl, Z23⟩ <;> have H := Z23
     ·obtain ⟨Z24, Z25⟩ : ∃ j_ : Int, (mx a0_2 a1_2) = j_ := ⟨_, rfl⟩
      replace H : (impl_ProbeClose.j0 k (decide ((Z24) > (mn a0_3 a1_3))) a0_0 a0_1 a0_2 a0_3 a0_4 a0_5 a1_0 a1_1 a1_2 a1_3 a1_4 a1_5) = some (r1, r2) := by first | (rw [Z25] at H; exact H) | (simp only [Z25] at H ⊢; exact H)
      (try rw [Z25] at Z13)
      (try rw [Z25] at Z16)
      (try rw [Z25] at Z19)
      (try rw [Z25] at Z22)
      have Z26 : (if a0_2 < a1_2 then a1_2 else a0_2) = Z24 := Z25
      obtain ⟨Z27, Z28⟩ : ∃ j_ : Int, (mn a0_3 a1_3) = j_ := ⟨_, rfl⟩
      replace H : (impl_ProbeClose.j0 k (decide ((Z24) > (Z27))) a0_0 a0_1 a0_2 a0_3 a0_4 a0_5 a1_0 a1_1 a1_2 a1_3 a1_4 a1_5) = some (r1, r2) := by first | (rw [Z28] at H; exact H) | (simp only [Z28] at H ⊢; exact H)
      (try rw [Z28] at Z13)
      (try rw [Z28] at Z16)
      (try rw [Z28] at Z19)
      (try rw [Z28] at Z22)
      have Z29 : (if a1_3 < a0_3 then a1_3 else a0_3) = Z27 := Z28
      have H' := ra H; clear H
      have Z30 := Z10.out
      have Z31 := Z11.out
      obtain ⟨Z32, Z33, Z34, Z35, Z36, Z37, Z38, Z39, Z40, Z41, Z42, Z43⟩ := zc6 Z4
      go_wp2_with (first | ((with_reducible refine gc 29 rfl ?_); refine gy (some 8) Tryz.func29 (impl_ProbeBoxOk.calls _ _ _ _ _ _ _ _ Z13.out) ?_; rintro Z44 hb; replace Z4 := bb (bk Z4) hb; replace Z8 := bb (bk Z8) hb; replace HB := bs hb; clear hb; obtain ⟨Z45, Z46, Z47, Z48, Z49, Z50, Z51, Z52, Z53, Z54, Z55, Z56⟩ := zc6 Z8) | (go_at_call 29; (with_reducible refine (impl_ProbeBoxOk.calls _ _ _ _ _ _ _ _ Z16.out).mono ?_); rintro e Z57 ⟨rfl, hb⟩; replace Z4 := bb (bk Z4) hb; replace Z8 := bb (bk Z8) hb; replace HB := bs hb; clear hb; obtain ⟨Z58, Z59, Z60, Z61, Z62, Z63, Z64, Z65, Z66, Z67, Z68, Z69⟩ := zc6 Z4; obtain ⟨Z70, Z71, Z72, Z73, Z74, Z75, Z76, Z77, Z78, Z79, Z80, Z81⟩ := zc6 Z8) | (go_at_call 57; (with_reducible refine (impl_in.calls _ _ _ _ _ Z19.out).mono ?_); rintro e w' ⟨rfl, ⟨nd, rfl⟩⟩) | (go_at_call 57; (with_reducible refine (impl_in.calls _ _ _ _ _ Z22.out).mono ?_); rintro e w' ⟨rfl, ⟨nd, rfl⟩⟩))
      go_meet
      case rel => exact ⟨_, (decide ((Z24) > (Z27))), (by first | rfl | (simp; done) | (simp only [← Z25, ← Z28] <;> (first | rfl | simp)) | (simp [*]; done)), H', ⟨by first | omega | exact Nat.le_refl _⟩, ⟨bk Z4⟩, ⟨bk Z8⟩, ⟨bq⟩⟩
     ·have H' := ra H; clear H
      have Z24 := Z10.out
      have Z25 := Z11.out
      obtain ⟨Z26, Z27, Z28, Z29, Z30, Z31, Z32, Z33, Z34, Z35, Z36, Z37⟩ := zc6 Z4
      go_wp2_with (first | ((with_reducible refine gc 29 rfl ?_); refine gy (some 8) Tryz.func29 (impl_ProbeBoxOk.calls _ _ _ _ _ _ _ _ Z13.out) ?_; rintro Z38 hb; replace Z4 := bb (bk Z4) hb; replace Z8 := bb (bk Z8) hb; replace HB := bs hb; clear hb; obtain ⟨Z39, Z40, Z41, Z42, Z43, Z44, Z45, Z46, Z47, Z48, Z49, Z50⟩ := zc6 Z8) | (go_at_call 29; (with_reducible refine (impl_ProbeBoxOk.calls _ _ _ _ _ _ _ _ Z16.out).mono ?_); rintro e Z51 ⟨rfl, hb⟩; replace Z4 := bb (bk Z4) hb; replace Z8 := bb (bk Z8) hb; replace HB := bs hb; clear hb; obtain ⟨Z52, Z53, Z54, Z55, Z56, Z57, Z58, Z59, Z60, Z61, Z62, Z63⟩ := zc6 Z4; obtain ⟨Z64, Z65, Z66, Z67, Z68, Z69, Z70, Z71, Z72, Z73, Z74, Z75⟩ := zc6 Z8) | (go_at_call 57; (with_reducible refine (impl_in.calls _ _ _ _ _ Z19.out).mono ?_); rintro e w' ⟨rfl, ⟨nd, rfl⟩⟩) | (go_at_call 57; (with_reducible refine (impl_in.calls _ _ _ _ _ Z22.out).mono ?_); rintro e w' ⟨rfl, ⟨nd, rfl⟩⟩))
      go_meet
      case rel => exact ⟨_, _, rs, H', ⟨by first | omega | exact Nat.le_refl _⟩, ⟨bk Z4⟩, ⟨bk Z8⟩, ⟨bq⟩⟩
    ·have H' := ra H; clear H
     have Z21 := Z10.out
     have Z22 := Z11.out
     obtain ⟨Z23, Z24, Z25, Z26, Z27, Z28, Z29, Z30, Z31, Z32, Z33, Z34⟩ := zc6 Z4
     go_wp2_with (first | ((with_reducible refine gc 29 rfl ?_); refine gy (some 8) Tryz.func29 (impl_ProbeBoxOk.calls _ _ _ _ _ _ _ _ Z13.out) ?_; rintro Z35 hb; replace Z4 := bb (bk Z4) hb; replace Z8 := bb (bk Z8) hb; replace HB := bs hb; clear hb; obtain ⟨Z36, Z37, Z38, Z39, Z40, Z41, Z42, Z43, Z44, Z45, Z46, Z47⟩ := zc6 Z8) | (go_at_call 29; (with_reducible refine (impl_ProbeBoxOk.calls _ _ _ _ _ _ _ _ Z16.out).mono ?_); rintro e Z48 ⟨rfl, hb⟩; replace Z4 := bb (bk Z4) hb; replace Z8 := bb (bk Z8) hb; replace HB := bs hb; clear hb; obtain ⟨Z49, Z50, Z51, Z52, Z53, Z54, Z55, Z56, Z57, Z58, Z59, Z60⟩ := zc6 Z4; obtain ⟨Z61, Z62, Z63, Z64, Z65, Z66, Z67, Z68, Z69, Z70, Z71, Z72⟩ := zc6 Z8) | (go_at_call 57; (with_reducible refine (impl_in.calls _ _ _ _ _ Z19.out).mono ?_); rintro e w' ⟨rfl, ⟨nd, rfl⟩⟩))
     go_meet
     case rel => exact ⟨_, _, rs, H', ⟨by first | omega | exact Nat.le_refl _⟩, ⟨bk Z4⟩, ⟨bk Z8⟩, ⟨bq⟩⟩
   ·have H' := ra H; clear H
    have Z18 := Z10.out
    have Z19 := Z11.out
    obtain ⟨Z20, Z21, Z22, Z23, Z24, Z25, Z26, Z27, Z28, Z29, Z30, Z31⟩ := zc6 Z4
    go_wp2_with (first | ((with_reducible refine gc 29 rfl ?_); refine gy (some 8) Tryz.func29 (impl_ProbeBoxOk.calls _ _ _ _ _ _ _ _ Z13.out) ?_; rintro Z32 hb; replace Z4 := bb (bk Z4) hb; replace Z8 := bb (bk Z8) hb; replace HB := bs hb; clear hb; obtain ⟨Z33, Z34, Z35, Z36, Z37, Z38, Z39, Z40, Z41, Z42, Z43, Z44⟩ := zc6 Z8) | (go_at_call 29; (with_reducible refine (impl_ProbeBoxOk.calls _ _ _ _ _ _ _ _ Z16.out).mono ?_); rintro e Z45 ⟨rfl, hb⟩; replace Z4 := bb (bk Z4) hb; replace Z8 := bb (bk Z8) hb; replace HB := bs hb; clear hb))
    go_meet
    case rel => exact ⟨_, _, rs, H', ⟨by first | omega | exact Nat.le_refl _⟩, ⟨bk Z4⟩, ⟨bk Z8⟩, ⟨bq⟩⟩
  ·have H' := ra H; clear H
   have Z15 := Z10.out
   have Z16 := Z11.out
   obtain ⟨Z17, Z18, Z19, Z20, Z21, Z22, Z23, Z24, Z25, Z26, Z27, Z28⟩ := zc6 Z4
   go_wp2_with (first | ((with_reducible refine gc 29 rfl ?_); refine gy (some 8) Tryz.func29 (impl_ProbeBoxOk.calls _ _ _ _ _ _ _ _ Z13.out) ?_; rintro Z29 hb; replace Z4 := bb (bk Z4) hb; replace Z8 := bb (bk Z8) hb; replace HB := bs hb; clear hb))
   go_meet
   case rel => exact ⟨_, _, rs, H', ⟨by first | omega | exact Nat.le_refl _⟩, ⟨bk Z4⟩, ⟨bk Z8⟩, ⟨bq⟩⟩
 case rest =>
  clear Z1
  obtain ⟨kq, Z12, rfl, HA, Z13, Z4, Z8, HB⟩ := hcut
  cases kq with
  | zero => exact absurd HA.out (by simp [impl_ProbeClose.j0])
  | succ Z14 =>
   have H := HA.out
   clear HA
   simp only [impl_ProbeClose.j0] at H
   rcases ud H with ⟨rfl, Z15⟩ | ⟨rfl, Z15⟩ <;> have H := Z15
   ·simp only [Option.some.injEq, Prod.mk.injEq] at H
    obtain ⟨rfl, rfl⟩ := H
    go_wp2
    go_ret2
    exact ⟨re, bq⟩
   obtain ⟨Z16, Z17⟩ : ∃ j_ : Int, (mx a0_4 a1_4) = j_ := ⟨_, rfl⟩
   replace H : (if (Z16) > (mn a0_5 a1_5) then (some (0, false)) else (some (Z16, true))) = some (r1, r2) := by first | (rw [Z17] at H; exact H) | (simp only [Z17] at H ⊢; exact H)
   have Z18 : (if a0_4 < a1_4 then a1_4 else a0_4) = Z16 := Z17
   obtain ⟨Z19, Z20⟩ : ∃ j_ : Int, (mn a0_5 a1_5) = j_ := ⟨_, rfl⟩
   replace H : (if (Z16) > (Z19) then (some (0, false)) else (some (Z16, true))) = some (r1, r2) := by first | (rw [Z20] at H; exact H) | (simp only [Z20] at H ⊢; exact H)
   have Z21 : (if a1_5 < a0_5 then a1_5 else a0_5) = Z19 := Z20
   rcases td H with ⟨Z22, H⟩ | ⟨Z22, H⟩
   rotate_left
   rotate_left
   all_goals
    simp only [Option.some.injEq, Prod.mk.injEq] at H
    obtain ⟨rfl, rfl⟩ := H
    have Z23 := Z10.out
    have Z24 := Z11.out
    obtain ⟨Z25, Z26, Z27, Z28, Z29, Z30, Z31, Z32, Z33, Z34, Z35, Z36⟩ := zc6 Z4
    obtain ⟨Z37, Z38, Z39, Z40, Z41, Z42, Z43, Z44, Z45, Z46, Z47, Z48⟩ := zc6 Z8
    go_wp2
    go_ret2
    exact ⟨by first | rfl | (simp [errW_none, errW_some] <;> rfl) | (simp only [← Z17, ← Z20]; first | rfl | (simp [errW_none, errW_some] <;> rfl)) | (simp [*, errW_none, errW_some] <;> rfl), bq⟩
theorem impl_ProbeMeet.calls (k : Nat) (a0_0 : ByteArray) (A0_1 : Option Addr) (c0_1 : Nat) (l0_1 : List (S46)) (a1_0 : ByteArray) (A1_1 : Option Addr) (c1_1 : Nat) (l1_1 : List (S46)) (r1 r2 : ByteArray) (r3 r4 r5 : Int) (r6 : Bool) (w : World) (hr0_1 : Kd.C k46 w A0_1 l0_1.length l0_1) (hc0_1 : l0_1.length ≤ c0_1) (hr1_1 : Kd.C k46 w A1_1 l1_1.length l1_1) (hc1_1 : l1_1.length ≤ c1_1) (h : impl_ProbeMeet.f k a0_0 l0_1 a1_0 l1_1 = some (r1, r2, r3, r4, r5, r6)) :
  Calls Tryz.prog 37 #[.agg #[.string a0_0, .slice A0_1 l0_1.length c0_1], .agg #[.string a1_0, .slice A1_1 l1_1.length c1_1]] w fun e w' => e = .returned (.tuple #[.agg #[.string r1, .string r2, .int .i64 r3, .int .i64 r4, .int .i64 r5], .bool r6]) ∧ Below w.heap.size w w' := by
 have Z0 := Tryz.underlying33
 have Z1 := Tryz.underlying70
 have Z2 := Tryz.underlying46
 have Z3 := ra hr0_1
 have Z4 := ra hc0_1
 clear hr0_1 hc0_1
 have Z5 := ra hr1_1
 have Z6 := ra hc1_1
 clear hr1_1 hc1_1
 have HB := ra (Below.refl w.heap.size w)
 have H := h; unfold impl_ProbeMeet.f at H
 clear h
 have Z7 := ra H; clear H
 go_enter Tryz.func37, Tryz.ntmps37
 go_upto_region 1 with (first | ((with_reducible refine gd 2 rfl ?_); refine bd 2 #[.string a0_0, .slice A0_1 l0_1.length c0_1] 33 ?_; intro Z8 Z9 HB Z10 Z11) | ((with_reducible refine gd 3 rfl ?_); refine bf 3 #[.string a1_0, .slice A1_1 l1_1.length c1_1] 33 ?_; intro Z12 Z13 hg hb HB Z14 Z15; have Z16 := bn hg (bk Z10); have Z17 := bm hg (bk Z10); replace Z10 := bb (bk Z10) hb; clear hg hb) | ((with_reducible refine gd 4 rfl ?_); refine bf 4 #[.string (⟨#[]⟩ : ByteArray), .string (⟨#[]⟩ : ByteArray), .int .i64 0, .int .i64 0, .int .i64 0] 70 ?_; intro Z18 Z19 hg hb HB Z20 Z21; have Z22 := bn hg (bk Z10); have Z23 := bm hg (bk Z10); have Z24 := bn hg (bk Z14); have Z25 := bm hg (bk Z14); replace Z10 := bb (bk Z10) hb; replace Z14 := bb (bk Z14) hb; clear hg hb))
 (try simp only [Act.put, List.setIfInBounds_toArray, List.set_cons_zero, List.set_cons_succ])
 go_cut [21] (fun v21 wc => ∃ (kq : Nat) (x21_2 : Bool), v21 = .bool x21_2 ∧ Aside0 (impl_ProbeMeet.j0 kq x21_2 a0_0 l0_1 a1_0 l1_1 = some (r1, r2, r3, r4, r5, r6)) ∧ Aside0 (kq ≤ k) ∧ Aside0 (wc.heap[Z8]? = some (.cells #[.string a0_0, (.slice A0_1 l0_1.length c0_1)] 33 (0, 0))) ∧ Aside0 (wc.heap[Z12]? = some (.cells #[.string a1_0, (.slice A1_1 l1_1.length c1_1)] 33 (0, 0))) ∧ Aside0 (wc.heap[Z18]? = some (.cells #[.string (⟨#[]⟩ : ByteArray), .string (⟨#[]⟩ : ByteArray), .int .i64 0, .int .i64 0, .int .i64 0] 70 (0, 0))) ∧ Aside0 (Below w.heap.size w wc))
 case first =>
  have H := Z7.out
  clear Z7
  obtain ⟨Z26, Z27, H⟩ := bo H
  rcases ud H with ⟨rfl, Z28⟩ | ⟨rfl, Z28⟩ <;> have H := Z28
  ·obtain ⟨Z29, Z30, H⟩ := bo H
   have H' := ra H; clear H
   have Z31 := Z16.out
   have Z32 := Z17.out
   have Z33 := Z22.out
   have Z34 := Z23.out
   obtain ⟨Z35, Z36, Z37, Z38⟩ := zc2 Z10
   go_wp2_with (first | ((with_reducible refine gc 61 rfl ?_); refine gy (some 15) Tryz.func61 (impl_ProbeTubeOk.calls _ _ _ _ _ _ _ (sc Z3) Z4.out Z27.out) ?_; rintro Z39 hb; replace Z10 := bb (bk Z10) hb; replace Z14 := bb (bk Z14) hb; replace Z20 := bb (bk Z20) hb; replace HB := bs hb; clear hb; have Z40 := Z24.out; have Z41 := Z25.out; obtain ⟨Z42, Z43, Z44, Z45⟩ := zc2 Z14) | (go_at_call 61; (with_reducible refine (impl_ProbeTubeOk.calls _ _ _ _ _ _ _ ?side1 ?side2 Z30.out).mono ?_); (case side1 => exact sc Z5); (case side2 => exact Z6.out); rintro e Z46 ⟨rfl, hb⟩; replace Z10 := bb (bk Z10) hb; replace Z14 := bb (bk Z14) hb; replace Z20 := bb (bk Z20) hb; replace HB := bs hb; clear hb))
   go_meet
   case rel => exact ⟨_, _, rs, H', ⟨by first | omega | exact Nat.le_refl _⟩, ⟨bk Z10⟩, ⟨bk Z14⟩, ⟨bk Z20⟩, ⟨bq⟩⟩
  ·have H' := ra H; clear H
   have Z29 := Z16.out
   have Z30 := Z17.out
   have Z31 := Z22.out
   have Z32 := Z23.out
   obtain ⟨Z33, Z34, Z35, Z36⟩ := zc2 Z10
   go_wp2_with (first | ((with_reducible refine gc 61 rfl ?_); refine gy (some 15) Tryz.func61 (impl_ProbeTubeOk.calls _ _ _ _ _ _ _ (sc Z3) Z4.out Z27.out) ?_; rintro Z37 hb; replace Z10 := bb (bk Z10) hb; replace Z14 := bb (bk Z14) hb; replace Z20 := bb (bk Z20) hb; replace HB := bs hb; clear hb))
   go_meet
   case rel => exact ⟨_, _, rs, H', ⟨by first | omega | exact Nat.le_refl _⟩, ⟨bk Z10⟩, ⟨bk Z14⟩, ⟨bk Z20⟩, ⟨bq⟩⟩
 case rest =>
  clear Z7
  obtain ⟨kq, Z26, rfl, HA, Z27, Z10, Z14, Z20, HB⟩ := hcut
  cases kq with
  | zero => exact absurd HA.out (by simp [impl_ProbeMeet.j0])
  | succ Z28 =>
   have H := HA.out
   clear HA
   simp only [impl_ProbeMeet.j0] at H
   rcases ud H with ⟨rfl, Z29⟩ | ⟨rfl, Z29⟩ <;> have H := Z29
   ·simp only [Option.some.injEq, Prod.mk.injEq] at H
    obtain ⟨rfl, rfl, rfl, rfl, rfl, rfl⟩ := H
    have Z30 := Z23.out
    have Z31 := Z22.out
    have Z32 := Z25.out
    have Z33 := Z24.out
    obtain ⟨Z34, Z35, Z36, Z37, Z38, Z39, Z40, Z41, Z42, Z43⟩ := zc5 Z20
    go_wp2
    refine bodyPost_ret (results_ct rfl _ _ Z18 70 #[.string (⟨#[]⟩ : ByteArray), .string (⟨#[]⟩ : ByteArray), .int .i64 0, .int .i64 0, .int .i64 0] (0, 0) _ rfl (bp Z20) Tryz.underlying70 rfl (by kernel_rfl)) rfl ?_
    exact ⟨re, bq⟩
   ·have H' := ra H; clear H
    go_wp2_with (first | ((with_reducible refine gd 6 rfl ?_); refine bf 6 #[.string (⟨#[]⟩ : ByteArray), .string (⟨#[]⟩ : ByteArray), .int .i64 0, .int .i64 0, .int .i64 0] 70 ?_; intro Z30 Z31 hg hb HB Z32 Z33; have Z34 := bn hg (bk Z10); have Z35 := bm hg (bk Z10); have Z36 := bn hg (bk Z14); have Z37 := bm hg (bk Z14); have Z38 := bn hg (bk Z20); have Z39 := bm hg (bk Z20); replace Z10 := bb (bk Z10) hb; replace Z14 := bb (bk Z14) hb; replace Z20 := bb (bk Z20) hb; have Z40 := Z35.out; have Z41 := Z34.out; have Z42 := Z37.out; have Z43 := Z36.out; have Z44 := Z39.out; have Z45 := Z38.out; obtain ⟨Z46, Z47, Z48, Z49, Z50, Z51, Z52, Z53, Z54, Z55⟩ := zc5 Z32; have Z56 := Z16.out; have Z57 := Z17.out; have Z58 := Z22.out; have Z59 := Z23.out; obtain ⟨Z60, Z61, Z62, Z63⟩ := zc2 Z10; clear hg hb))
    go_loopg [7, 27] Z28 (fun kq v7 v27 w' => ∃ (x7_2 : Bool) (x27_2 : Int) (x485000_2 : ByteArray) (x485001_2 : ByteArray) (x485002_2 : Int) (x485003_2 : Int) (x485004_2 : Int), v7 = .bool x7_2 ∧ v27 = .int .i64 x27_2 ∧ Aside0 (impl_ProbeMeet.l0 kq x7_2 l0_1 (l0_1.length : Int) x27_2 a0_0 l0_1 a1_0 l1_1 x485000_2 x485001_2 x485002_2 x485003_2 x485004_2 = some (r1, r2, r3, r4, r5, r6)) ∧ Aside0 (kq ≤ Z28) ∧ Aside0 (w'.heap[Z8]? = some (.cells #[.string a0_0, (.slice A0_1 l0_1.length c0_1)] 33 (0, 0))) ∧ Aside0 (w'.heap[Z12]? = some (.cells #[.string a1_0, (.slice A1_1 l1_1.length c1_1)] 33 (0, 0))) ∧ Aside0 (w'.heap[Z18]? = some (.cells #[.string (⟨#[]⟩ : ByteArray), .string (⟨#[]⟩ : ByteArray), .int .i64 0, .int .i64 0, .int .i64 0] 70 (0, 0))) ∧ Aside0 (w'.heap[Z30]? = some (.cells #[.string x485000_2, .string x485001_2, .int .i64 x485002_2, .int .i64 x485003_2, .int .i64 x485004_2] 70 (0, 0))) ∧ Aside0 (Below w.heap.size w w'))
    case atStart => exact ⟨(false), (0), ((⟨#[]⟩ : ByteArray)), ((⟨#[]⟩ : ByteArray)), (0), (0), (0), rs, rs, H', ⟨Nat.le_refl _⟩, ⟨bk Z10⟩, ⟨bk Z14⟩, ⟨bk Z20⟩, ⟨bp Z32⟩, ⟨bq⟩⟩
    case round =>
     clear H'
     try clear Z46
     try clear Z47
     try clear Z48
     try clear Z49
     try clear Z50
     try clear Z60
     try clear Z61
     try clear Z51
     try clear Z52
     try clear Z53
     try clear Z54
     try clear Z55
     try clear Z62
     try clear Z63
     obtain ⟨Z64, Z65, Z66, Z67, Z68, Z69, Z70, rfl, rfl, HA, Z71, Z10, Z14, Z20, Z32, HB⟩ := hrel
     cases gk with
     | zero => exact absurd HA.out (by simp [impl_ProbeMeet.l0])
     | succ Z72 =>
      have H := HA.out
      clear HA
      simp only [impl_ProbeMeet.l0] at H
      rcases td H with ⟨Z73, H⟩ | ⟨Z73, H⟩
      ·obtain ⟨Z74, H⟩ := tn H
       obtain ⟨Z75, H⟩ := tn H
       have H' := ra H; clear H
       have Z76 : 0 ≤ (Z65 : Int) := od
       have Z77 : Z65 < (l0_1.length : Int) := od
       obtain ⟨Z78, Z79, Z80, Z81, Z82, Z83, Z84, Z85⟩ := at_T46 Z3.out Z65 Z76 Z77
       cases Z79
       replace Z80 := hc HB Z80
       replace Z81 := hc HB Z81
       replace Z82 := hc HB Z82
       replace Z83 := hc HB Z83
       replace Z84 := hc HB Z84
       replace Z85 := hc HB Z85
       replace Z76 := eq_true Z76
       replace Z77 := eq_true Z77
       go_wp2_with (first | ((with_reducible refine gd 9 rfl ?_); refine bf 9 #[.int .i64 0, .int .i64 0, .int .i64 0, .int .i64 0, .int .i64 0, .int .i64 0] 46 ?_; intro Z86 Z87 hg hb HB Z88 Z89; have Z90 := bn hg (bk Z10); have Z91 := bm hg (bk Z10); have Z92 := bn hg (bk Z14); have Z93 := bm hg (bk Z14); have Z94 := bn hg (bk Z20); have Z95 := bm hg (bk Z20); have Z96 := bn hg (bk Z32); have Z97 := bm hg (bk Z32); replace Z10 := bb (bk Z10) hb; replace Z14 := bb (bk Z14) hb; replace Z20 := bb (bk Z20) hb; replace Z32 := bb (bk Z32) hb; have Z98 := Z91.out; have Z99 := Z90.out; have Z100 := Z93.out; have Z101 := Z92.out; have Z102 := Z95.out; have Z103 := Z94.out; have Z104 := Z97.out; have Z105 := Z96.out; obtain ⟨Z106, Z107, Z108, Z109, Z110, Z111, Z112, Z113, Z114, Z115, Z116, Z117⟩ := zc6 Z88; have Z118 := Z17.out; have Z119 := Z16.out; have Z120 := Z24.out; have Z121 := Z25.out; have Z122 := Z36.out; have Z123 := Z37.out; obtain ⟨Z124, Z125, Z126, Z127⟩ := zc2 Z14; clear hg hb))
       go_loopg [7, 35] Z72 (fun kq v7 v35 w' => ∃ (x7_3 : Bool) (x35_3 : Int) (x485000_3 : ByteArray) (x485001_3 : ByteArray) (x485002_3 : Int) (x485003_3 : Int) (x485004_3 : Int), v7 = .bool x7_3 ∧ v35 = .int .i64 x35_3 ∧ Aside0 (impl_ProbeMeet.l1 kq x7_3 Z65 l0_1 (l0_1.length : Int) Z65 l1_1 (l1_1.length : Int) x35_3 a0_0 l0_1 a1_0 l1_1 x485000_3 x485001_3 x485002_3 x485003_3 x485004_3 ((rd_T46 l0_1 Z65).f0) ((rd_T46 l0_1 Z65).f1) ((rd_T46 l0_1 Z65).f2) ((rd_T46 l0_1 Z65).f3) ((rd_T46 l0_1 Z65).f4) ((rd_T46 l0_1 Z65).f5) = some (r1, r2, r3, r4, r5, r6)) ∧ Aside0 (kq ≤ Z72) ∧ Aside0 (w'.heap[Z8]? = some (.cells #[.string a0_0, (.slice (some Z78) l0_1.length c0_1)] 33 (0, 0))) ∧ Aside0 (w'.heap[Z12]? = some (.cells #[.string a1_0, (.slice A1_1 l1_1.length c1_1)] 33 (0, 0))) ∧ Aside0 (w'.heap[Z18]? = some (.cells #[.string (⟨#[]⟩ : ByteArray), .string (⟨#[]⟩ : ByteArray), .int .i64 0, .int .i64 0, .int .i64 0] 70 (0, 0))) ∧ Aside0 (w'.heap[Z30]? = some (.cells #[.string x485000_3, .string x485001_3, .int .i64 x485002_3, .int .i64 x485003_3, .int .i64 x485004_3] 70 (0, 0))) ∧ Aside0 (w'.heap[Z86]? = some (.cells #[.int .i64 ((rd_T46 l0_1 Z65).f0), .int .i64 ((rd_T46 l0_1 Z65).f1), .int .i64 ((rd_T46 l0_1 Z65).f2), .int .i64 ((rd_T46 l0_1 Z65).f3), .int .i64 ((rd_T46 l0_1 Z65).f4), .int .i64 ((rd_T46 l0_1 Z65).f5)] 46 (0, 0))) ∧ Aside0 (Below w.heap.size w w'))
       case atStart => exact ⟨(Z64), (0), (Z66), (Z67), (Z68), (Z69), (Z70), rs, rs, H', ⟨Nat.le_refl _⟩, ⟨bk Z10⟩, ⟨bk Z14⟩, ⟨bk Z20⟩, ⟨bk Z32⟩, ⟨bp Z88⟩, ⟨bq⟩⟩
       case round =>
        clear H'
        try clear Z73
        try clear Z74
        try clear Z75
        try clear Z46
        try clear Z47
        try clear Z48
        try clear Z49
        try clear Z50
        try clear Z60
        try clear Z61
        try clear Z106
        try clear Z107
        try clear Z108
        try clear Z109
        try clear Z110
        try clear Z111
        try clear Z124
        try clear Z125
        try clear Z51
        try clear Z52
        try clear Z53
        try clear Z54
        try clear Z55
        try clear Z62
        try clear Z63
        try clear Z112
        try clear Z113
        try clear Z114
        try clear Z115
        try clear Z116
        try clear Z117
        try clear Z126
        try clear Z127
        try clear Z80
        try clear Z81
        try clear Z82
        try clear Z83
        try clear Z84
        try clear Z85
        try clear Z76
        try clear Z77
        obtain ⟨Z128, Z129, Z130, Z131, Z132, Z133, Z134, rfl, rfl, HA, Z135, Z10, Z14, Z20, Z32, Z88, HB⟩ := hrel
        cases gk with
        | zero => exact absurd HA.out (by simp [impl_ProbeMeet.l1])
        | succ Z136 =>
         have H := HA.out
         clear HA
         simp only [impl_ProbeMeet.l1] at H
         rcases td H with ⟨Z137, H⟩ | ⟨Z137, H⟩
         ·obtain ⟨Z138, H⟩ := tn H
          obtain ⟨Z139, H⟩ := tn H
          obtain ⟨⟨Z140, Z141⟩, Z142, H⟩ := bo H
          try dsimp only at H
          rcases ud H with ⟨rfl, Z143⟩ | ⟨rfl, Z143⟩ <;> have H := Z143
          ·rcases ud H with ⟨rfl, Z144⟩ | ⟨rfl, Z144⟩ <;> have H := Z144
           ·rcases td H with ⟨Z145, H⟩ | ⟨Z145, H⟩
            ·have H' := ra H; clear H
             have Z146 : 0 ≤ (Z129 : Int) := od
             have Z147 : Z129 < (l1_1.length : Int) := od
             obtain ⟨Z148, Z149, Z150, Z151, Z152, Z153, Z154, Z155⟩ := at_T46 Z5.out Z129 Z146 Z147
             cases Z149
             replace Z150 := hc HB Z150
             replace Z151 := hc HB Z151
             replace Z152 := hc HB Z152
             replace Z153 := hc HB Z153
             replace Z154 := hc HB Z154
             replace Z155 := hc HB Z155
             replace Z146 := eq_true Z146
             replace Z147 := eq_true Z147
             go_wp2_with (first | ((with_reducible refine gd 11 rfl ?_); refine bf 11 #[.int .i64 0, .int .i64 0, .int .i64 0, .int .i64 0, .int .i64 0, .int .i64 0] 46 ?_; intro Z156 Z157 hg hb HB Z158 Z159; have Z160 := bn hg (bk Z10); have Z161 := bm hg (bk Z10); have Z162 := bn hg (bk Z14); have Z163 := bm hg (bk Z14); have Z164 := bn hg (bk Z20); have Z165 := bm hg (bk Z20); have Z166 := bn hg (bk Z32); have Z167 := bm hg (bk Z32); have Z168 := bn hg (bk Z88); have Z169 := bm hg (bk Z88); replace Z10 := bb (bk Z10) hb; replace Z14 := bb (bk Z14) hb; replace Z20 := bb (bk Z20) hb; replace Z32 := bb (bk Z32) hb; replace Z88 := bb (bk Z88) hb; have Z170 := Z161.out; have Z171 := Z160.out; have Z172 := Z163.out; have Z173 := Z162.out; have Z174 := Z165.out; have Z175 := Z164.out; have Z176 := Z167.out; have Z177 := Z166.out; have Z178 := Z169.out; have Z179 := Z168.out; obtain ⟨Z180, Z181, Z182, Z183, Z184, Z185, Z186, Z187, Z188, Z189, Z190, Z191⟩ := zc6 Z158; have Z192 := Z91.out; have Z193 := Z90.out; have Z194 := Z93.out; have Z195 := Z92.out; have Z196 := Z95.out; have Z197 := Z94.out; have Z198 := Z97.out; have Z199 := Z96.out; obtain ⟨Z200, Z201, Z202, Z203, Z204, Z205, Z206, Z207, Z208, Z209, Z210, Z211⟩ := zc6 Z88; clear hg hb) | ((with_reducible refine gc 62 rfl ?_); refine gy (some 43) Tryz.func62 (impl_ProbeClose.calls _ _ _ _ _ _ _ _ _ _ _ _ _ _ _ _ Z142.out) ?_; rintro Z212 hb; replace Z10 := bb (bk Z10) hb; replace Z14 := bb (bk Z14) hb; replace Z20 := bb (bk Z20) hb; replace Z32 := bb (bk Z32) hb; replace Z88 := bb (bk Z88) hb; replace Z158 := bb (o := .cells #[.int .i64 ((rd_T46 l1_1 Z129).f0), .int .i64 ((rd_T46 l1_1 Z129).f1), .int .i64 ((rd_T46 l1_1 Z129).f2), .int .i64 ((rd_T46 l1_1 Z129).f3), .int .i64 ((rd_T46 l1_1 Z129).f4), .int .i64 ((rd_T46 l1_1 Z129).f5)] 46 (0, 0)) (bp Z158) hb; replace HB := bs hb; clear hb; have Z213 := Z35.out; have Z214 := Z34.out; have Z215 := Z37.out; have Z216 := Z36.out; have Z217 := Z39.out; have Z218 := Z38.out; obtain ⟨Z219, Z220, Z221, Z222, Z223, Z224, Z225, Z226, Z227, Z228⟩ := zc5 Z32; have Z229 := Z16.out; have Z230 := Z17.out; have Z231 := Z22.out; have Z232 := Z23.out; obtain ⟨Z233, Z234, Z235, Z236⟩ := zc2 Z10; have Z237 := Z24.out; have Z238 := Z25.out; obtain ⟨Z239, Z240, Z241, Z242⟩ := zc2 Z14))
             go_roundg Z136
             case measure => have := Z27.out; have := Z71.out; have := Z135.out; omega
             case rel => exact ⟨(true), (wrap64 (Z129 + 1)), (a0_0), (a1_0), (Z140), (Z65), (Z129), rs, rs, H', ⟨by have := Z27.out; have := Z71.out; have := Z135.out; omega⟩, ⟨bk Z10⟩, ⟨bk Z14⟩, ⟨bk Z20⟩, ⟨bp Z32⟩, ⟨bk Z88⟩, ⟨bq⟩⟩
            ·have H' := ra H; clear H
             have Z146 : 0 ≤ (Z129 : Int) := od
             have Z147 : Z129 < (l1_1.length : Int) := od
             obtain ⟨Z148, Z149, Z150, Z151, Z152, Z153, Z154, Z155⟩ := at_T46 Z5.out Z129 Z146 Z147
             cases Z149
             replace Z150 := hc HB Z150
             replace Z151 := hc HB Z151
             replace Z152 := hc HB Z152
             replace Z153 := hc HB Z153
             replace Z154 := hc HB Z154
             replace Z155 := hc HB Z155
             replace Z146 := eq_true Z146
             replace Z147 := eq_true Z147
             go_wp2_with (first | ((with_reducible refine gd 11 rfl ?_); refine bf 11 #[.int .i64 0, .int .i64 0, .int .i64 0, .int .i64 0, .int .i64 0, .int .i64 0] 46 ?_; intro Z156 Z157 hg hb HB Z158 Z159; have Z160 := bn hg (bk Z10); have Z161 := bm hg (bk Z10); have Z162 := bn hg (bk Z14); have Z163 := bm hg (bk Z14); have Z164 := bn hg (bk Z20); have Z165 := bm hg (bk Z20); have Z166 := bn hg (bk Z32); have Z167 := bm hg (bk Z32); have Z168 := bn hg (bk Z88); have Z169 := bm hg (bk Z88); replace Z10 := bb (bk Z10) hb; replace Z14 := bb (bk Z14) hb; replace Z20 := bb (bk Z20) hb; replace Z32 := bb (bk Z32) hb; replace Z88 := bb (bk Z88) hb; have Z170 := Z161.out; have Z171 := Z160.out; have Z172 := Z163.out; have Z173 := Z162.out; have Z174 := Z165.out; have Z175 := Z164.out; have Z176 := Z167.out; have Z177 := Z166.out; have Z178 := Z169.out; have Z179 := Z168.out; obtain ⟨Z180, Z181, Z182, Z183, Z184, Z185, Z186, Z187, Z188, Z189, Z190, Z191⟩ := zc6 Z158; have Z192 := Z91.out; have Z193 := Z90.out; have Z194 := Z93.out; have Z195 := Z92.out; have Z196 := Z95.out; have Z197 := Z94.out; have Z198 := Z97.out; have Z199 := Z96.out; obtain ⟨Z200, Z201, Z202, Z203, Z204, Z205, Z206, Z207, Z208, Z209, Z210, Z211⟩ := zc6 Z88; clear hg hb) | ((with_reducible refine gc 62 rfl ?_); refine gy (some 43) Tryz.func62 (impl_ProbeClose.calls _ _ _ _ _ _ _ _ _ _ _ _ _ _ _ _ Z142.out) ?_; rintro Z212 hb; replace Z10 := bb (bk Z10) hb; replace Z14 := bb (bk Z14) hb; replace Z20 := bb (bk Z20) hb; replace Z32 := bb (bk Z32) hb; replace Z88 := bb (bk Z88) hb; replace Z158 := bb (o := .cells #[.int .i64 ((rd_T46 l1_1 Z129).f0), .int .i64 ((rd_T46 l1_1 Z129).f1), .int .i64 ((rd_T46 l1_1 Z129).f2), .int .i64 ((rd_T46 l1_1 Z129).f3), .int .i64 ((rd_T46 l1_1 Z129).f4), .int .i64 ((rd_T46 l1_1 Z129).f5)] 46 (0, 0)) (bp Z158) hb; replace HB := bs hb; clear hb; have Z213 := Z35.out; have Z214 := Z34.out; have Z215 := Z37.out; have Z216 := Z36.out; have Z217 := Z39.out; have Z218 := Z38.out; obtain ⟨Z219, Z220, Z221, Z222, Z223, Z224, Z225, Z226, Z227, Z228⟩ := zc5 Z32))
             go_roundg Z136
             case measure => have := Z27.out; have := Z71.out; have := Z135.out; omega
             case rel => exact ⟨(true), (wrap64 (Z129 + 1)), (Z130), (Z131), (Z132), (Z133), (Z134), rs, rs, H', ⟨by have := Z27.out; have := Z71.out; have := Z135.out; omega⟩, ⟨bk Z10⟩, ⟨bk Z14⟩, ⟨bk Z20⟩, ⟨bk Z32⟩, ⟨bk Z88⟩, ⟨bq⟩⟩
           ·have H' := ra H; clear H
            have Z145 : 0 ≤ (Z129 : Int) := od
            have Z146 : Z129 < (l1_1.length : Int) := od
            obtain ⟨Z147, Z148, Z149, Z150, Z151, Z152, Z153, Z154⟩ := at_T46 Z5.out Z129 Z145 Z146
            cases Z148
            replace Z149 := hc HB Z149
            replace Z150 := hc HB Z150
            replace Z151 := hc HB Z151
            replace Z152 := hc HB Z152
            replace Z153 := hc HB Z153
            replace Z154 := hc HB Z154
            replace Z145 := eq_true Z145
            replace Z146 := eq_true Z146
            go_wp2_with (first | ((with_reducible refine gd 11 rfl ?_); refine bf 11 #[.int .i64 0, .int .i64 0, .int .i64 0, .int .i64 0, .int .i64 0, .int .i64 0] 46 ?_; intro Z155 Z156 hg hb HB Z157 Z158; have Z159 := bn hg (bk Z10); have Z160 := bm hg (bk Z10); have Z161 := bn hg (bk Z14); have Z162 := bm hg (bk Z14); have Z163 := bn hg (bk Z20); have Z164 := bm hg (bk Z20); have Z165 := bn hg (bk Z32); have Z166 := bm hg (bk Z32); have Z167 := bn hg (bk Z88); have Z168 := bm hg (bk Z88); replace Z10 := bb (bk Z10) hb; replace Z14 := bb (bk Z14) hb; replace Z20 := bb (bk Z20) hb; replace Z32 := bb (bk Z32) hb; replace Z88 := bb (bk Z88) hb; have Z169 := Z160.out; have Z170 := Z159.out; have Z171 := Z162.out; have Z172 := Z161.out; have Z173 := Z164.out; have Z174 := Z163.out; have Z175 := Z166.out; have Z176 := Z165.out; have Z177 := Z168.out; have Z178 := Z167.out; obtain ⟨Z179, Z180, Z181, Z182, Z183, Z184, Z185, Z186, Z187, Z188, Z189, Z190⟩ := zc6 Z157; have Z191 := Z91.out; have Z192 := Z90.out; have Z193 := Z93.out; have Z194 := Z92.out; have Z195 := Z95.out; have Z196 := Z94.out; have Z197 := Z97.out; have Z198 := Z96.out; obtain ⟨Z199, Z200, Z201, Z202, Z203, Z204, Z205, Z206, Z207, Z208, Z209, Z210⟩ := zc6 Z88; clear hg hb) | ((with_reducible refine gc 62 rfl ?_); refine gy (some 43) Tryz.func62 (impl_ProbeClose.calls _ _ _ _ _ _ _ _ _ _ _ _ _ _ _ _ Z142.out) ?_; rintro Z211 hb; replace Z10 := bb (bk Z10) hb; replace Z14 := bb (bk Z14) hb; replace Z20 := bb (bk Z20) hb; replace Z32 := bb (bk Z32) hb; replace Z88 := bb (bk Z88) hb; replace Z157 := bb (o := .cells #[.int .i64 ((rd_T46 l1_1 Z129).f0), .int .i64 ((rd_T46 l1_1 Z129).f1), .int .i64 ((rd_T46 l1_1 Z129).f2), .int .i64 ((rd_T46 l1_1 Z129).f3), .int .i64 ((rd_T46 l1_1 Z129).f4), .int .i64 ((rd_T46 l1_1 Z129).f5)] 46 (0, 0)) (bp Z157) hb; replace HB := bs hb; clear hb; have Z212 := Z16.out; have Z213 := Z17.out; have Z214 := Z22.out; have Z215 := Z23.out; have Z216 := Z34.out; have Z217 := Z35.out; obtain ⟨Z218, Z219, Z220, Z221⟩ := zc2 Z10; have Z222 := Z24.out; have Z223 := Z25.out; have Z224 := Z36.out; have Z225 := Z37.out; obtain ⟨Z226, Z227, Z228, Z229⟩ := zc2 Z14; have Z230 := Z39.out; have Z231 := Z38.out; obtain ⟨Z232, Z233, Z234, Z235, Z236, Z237, Z238, Z239, Z240, Z241⟩ := zc5 Z32))
            go_roundg Z136
            case measure => have := Z27.out; have := Z71.out; have := Z135.out; omega
            case rel => exact ⟨(true), (wrap64 (Z129 + 1)), (a0_0), (a1_0), (Z140), (Z65), (Z129), rs, rs, H', ⟨by have := Z27.out; have := Z71.out; have := Z135.out; omega⟩, ⟨bk Z10⟩, ⟨bk Z14⟩, ⟨bk Z20⟩, ⟨bp Z32⟩, ⟨bk Z88⟩, ⟨bq⟩⟩
          ·have H' := ra H; clear H
           have Z144 : 0 ≤ (Z129 : Int) := od
           have Z145 : Z129 < (l1_1.length : Int) := od
           obtain ⟨Z146, Z147, Z148, Z149, Z150, Z151, Z152, Z153⟩ := at_T46 Z5.out Z129 Z144 Z145
           cases Z147
           replace Z148 := hc HB Z148
           replace Z149 := hc HB Z149
           replace Z150 := hc HB Z150
           replace Z151 := hc HB Z151
           replace Z152 := hc HB Z152
           replace Z153 := hc HB Z153
           replace Z144 := eq_true Z144
           replace Z145 := eq_true Z145
           go_wp2_with (first | ((with_reducible refine gd 11 rfl ?_); refine bf 11 #[.int .i64 0, .int .i64 0, .int .i64 0, .int .i64 0, .int .i64 0, .int .i64 0] 46 ?_; intro Z154 Z155 hg hb HB Z156 Z157; have Z158 := bn hg (bk Z10); have Z159 := bm hg (bk Z10); have Z160 := bn hg (bk Z14); have Z161 := bm hg (bk Z14); have Z162 := bn hg (bk Z20); have Z163 := bm hg (bk Z20); have Z164 := bn hg (bk Z32); have Z165 := bm hg (bk Z32); have Z166 := bn hg (bk Z88); have Z167 := bm hg (bk Z88); replace Z10 := bb (bk Z10) hb; replace Z14 := bb (bk Z14) hb; replace Z20 := bb (bk Z20) hb; replace Z32 := bb (bk Z32) hb; replace Z88 := bb (bk Z88) hb; have Z168 := Z159.out; have Z169 := Z158.out; have Z170 := Z161.out; have Z171 := Z160.out; have Z172 := Z163.out; have Z173 := Z162.out; have Z174 := Z165.out; have Z175 := Z164.out; have Z176 := Z167.out; have Z177 := Z166.out; obtain ⟨Z178, Z179, Z180, Z181, Z182, Z183, Z184, Z185, Z186, Z187, Z188, Z189⟩ := zc6 Z156; have Z190 := Z91.out; have Z191 := Z90.out; have Z192 := Z93.out; have Z193 := Z92.out; have Z194 := Z95.out; have Z195 := Z94.out; have Z196 := Z97.out; have Z197 := Z96.out; obtain ⟨Z198, Z199, Z200, Z201, Z202, Z203, Z204, Z205, Z206, Z207, Z208, Z209⟩ := zc6 Z88; clear hg hb) | ((with_reducible refine gc 62 rfl ?_); refine gy (some 43) Tryz.func62 (impl_ProbeClose.calls _ _ _ _ _ _ _ _ _ _ _ _ _ _ _ _ Z142.out) ?_; rintro Z210 hb; replace Z10 := bb (bk Z10) hb; replace Z14 := bb (bk Z14) hb; replace Z20 := bb (bk Z20) hb; replace Z32 := bb (bk Z32) hb; replace Z88 := bb (bk Z88) hb; replace Z156 := bb (o := .cells #[.int .i64 ((rd_T46 l1_1 Z129).f0), .int .i64 ((rd_T46 l1_1 Z129).f1), .int .i64 ((rd_T46 l1_1 Z129).f2), .int .i64 ((rd_T46 l1_1 Z129).f3), .int .i64 ((rd_T46 l1_1 Z129).f4), .int .i64 ((rd_T46 l1_1 Z129).f5)] 46 (0, 0)) (bp Z156) hb; replace HB := bs hb; clear hb))
           go_roundg Z136
           case measure => have := Z27.out; have := Z71.out; have := Z135.out; omega
           case rel => exact ⟨(Z128), (wrap64 (Z129 + 1)), (Z130), (Z131), (Z132), (Z133), (Z134), rs, rs, H', ⟨by have := Z27.out; have := Z71.out; have := Z135.out; omega⟩, ⟨bk Z10⟩, ⟨bk Z14⟩, ⟨bk Z20⟩, ⟨bk Z32⟩, ⟨bk Z88⟩, ⟨bq⟩⟩
         ·have H' := ra H; clear H
          go_wp2
          go_roundg Z136
          case measure => have := Z27.out; have := Z71.out; have := Z135.out; omega
          case rel => exact ⟨(Z128), (wrap64 (Z65 + 1)), (Z130), (Z131), (Z132), (Z133), (Z134), rs, rs, H', ⟨by have := Z27.out; have := Z71.out; have := Z135.out; omega⟩, ⟨bk Z10⟩, ⟨bk Z14⟩, ⟨bk Z20⟩, ⟨bk Z32⟩, ⟨bq⟩⟩
      ·simp only [Option.some.injEq, Prod.mk.injEq] at H
       obtain ⟨rfl, rfl, rfl, rfl, rfl, rfl⟩ := H
       have Z74 := Z35.out
       have Z75 := Z34.out
       have Z76 := Z37.out
       have Z77 := Z36.out
       have Z78 := Z39.out
       have Z79 := Z38.out
       obtain ⟨Z80, Z81, Z82, Z83, Z84, Z85, Z86, Z87, Z88, Z89⟩ := zc5 Z32
       have Z90 := Z23.out
       have Z91 := Z22.out
       have Z92 := Z25.out
       have Z93 := Z24.out
       obtain ⟨Z94, Z95, Z96, Z97, Z98, Z99, Z100, Z101, Z102, Z103⟩ := zc5 Z20
       go_wp2
       refine bodyPost_ret (results_ct rfl _ _ Z18 70 #[.string Z66, .string Z67, .int .i64 Z68, .int .i64 Z69, .int .i64 Z70] (0, 0) _ rfl (bp Z20) Tryz.underlying70 rfl (by kernel_rfl)) rfl ?_
       exact ⟨re, bq⟩
theorem impl_ProbeAll.calls (k : Nat) (A0 : Option Addr) (c0 : Nat) (l0 : List (S33)) (r : List (S70)) (w : World) (hr0 : Kd.C k33 w A0 l0.length l0) (hc0 : l0.length ≤ c0) (h : impl_ProbeAll.f k l0 = some r) :
  Calls Tryz.prog 33 #[.slice A0 l0.length c0] w fun e w' => ∃ v0_ : Value, e = .returned (v0_) ∧ Kd.R k70 70 w' w.heap.size (fun _ => True) v0_ r ∧ Below w.heap.size w w' := by
 have Z0 := Tryz.underlying33
 have Z1 := Tryz.underlying70
 have Z2 := ra hr0
 have Z3 := ra hc0
 clear hr0 hc0
 have HB := ra (Below.refl w.heap.size w)
 have H := h; unfold impl_ProbeAll.f at H
 clear h
 obtain ⟨Z4, Z5, H⟩ := bo H
 rcases ud H with ⟨rfl, Z6⟩ | ⟨rfl, Z6⟩ <;> have H := Z6
 ·obtain ⟨Z7, hy_⟩ : ∃ y_ : List (S70), y_ = (([] : List (S70))) := ⟨_, rfl⟩
  replace H : (impl_ProbeAll.l0 k l0 Z7 l0 (l0.length : Int) 0) = some r := yh
  have Z8 := ra hy_
  clear hy_
  have H' := ra H; clear H
  go_enter Tryz.func33, Tryz.ntmps33
  go_wp2_with (first | ((with_reducible refine gc 60 rfl ?_); refine gy (some 11) Tryz.func60 (impl_ProbeSkyOk.calls _ _ _ _ _ _ (by repeat (first | exact Z2.out | (with_reducible refine Kd.C_alloc ?_ _) | (with_reducible refine Kd.C_drewN ?_ _) | (with_reducible refine Kd.C_drew ?_))) Z3.out Z5.out) ?_; rintro Z9 hb; replace HB := bs hb; clear hb) | ((with_reducible refine gd 13 rfl ?_); refine Kd.R_lit k70 _ 70 ?hg (N := 13) ?hd (xs := ([] : List (S70))) (inner := []) (ok := fun _ => True) (okp := fun _ => True) ?hr ?hp (fun _ hk => hk) trivial (Below.refl _ _) (Nat.le_refl _) (by simp) ?_; (case hd => rfl); (case hg => rfl); (case hr => first | (go_simp; done) | (go_simp; rfl)); (case hp => exact (Reps.none _ _)); intro Z10 Z11 Z12 hb hg_ hnew_; clear hg_ hnew_; (first | rw [← Z8.out] at Z12 | (simp only [Int.reduceToNat] at Z12; rw [← Z8.out] at Z12)); have Z13 := ra (Kd.R_lower Z12 (below_size bq)); replace HB := bs hb; clear hb Z12))
  go_loopg [3, 16] k (fun kq v3 v16 w' => ∃ (x3_1 : List (S70)) (x16_1 : Int), v16 = .int .i64 x16_1 ∧ Aside0 (impl_ProbeAll.l0 kq l0 x3_1 l0 (l0.length : Int) x16_1 = some r) ∧ Aside0 (kq ≤ k) ∧ Aside0 (Kd.R k70 70 w' w.heap.size (fun _ => True) v3 x3_1) ∧ Aside0 (Below w.heap.size w w'))
  case atStart => exact ⟨_, _, rs, H', ⟨Nat.le_refl _⟩, ⟨rq Z13⟩, ⟨bq⟩⟩
  case round =>
   clear H'
   obtain ⟨Z14, Z15, rfl, HA, Z16, Z17, HB⟩ := hrel
   cases gk with
   | zero => exact absurd HA.out (by simp [impl_ProbeAll.l0])
   | succ Z18 =>
    have H := HA.out
    clear HA
    simp only [impl_ProbeAll.l0] at H
    rcases td H with ⟨Z19, H⟩ | ⟨Z19, H⟩
    ·obtain ⟨Z20, H⟩ := tn H
     obtain ⟨Z21, H⟩ := tn H
     obtain ⟨Z22, Z23⟩ : ∃ j_ : Int, (wrap64 (Z15 + 1)) = j_ := ⟨_, rfl⟩
     replace H : (if 0 ≤ (Z22) then (if (Z22) ≤ (l0.length : Int) then ((some (l0.drop ((Z22) : Int).toNat : List (S33))).bind fun y497 => (impl_ProbeAll.l1 Z18 l0 Z14 l0 (l0.length : Int) Z15 y497 (y497.length : Int) 0 ((rd_T33 l0 Z15).f0) ((rd_T33 l0 Z15).f1))) else (none)) else (none)) = some r := by first | (rw [Z23] at H; exact H) | (simp only [Z23] at H ⊢; exact H)
     have Z24 : (IntKind.i64.wrap (Z15 + 1)) = Z22 := (i64_w _).trans Z23
     by_cases Z25 : 0 ≤ (Z22)
     ·rw [if_pos Z25] at H
      have Z26 := eq_true Z25
      have Z27 : decide (0 ≤ (Z22)) = true := decide_eq_true Z25
      clear Z25
      by_cases Z28 : (Z22) ≤ (l0.length : Int)
      ·rw [if_pos Z28] at H
       have Z29 := eq_true Z28
       have Z30 : decide ((Z22) ≤ (l0.length : Int)) = true := decide_eq_true Z28
       clear Z28
       obtain ⟨Z31, hy_⟩ : ∃ y_ : List (S33), y_ = (l0.drop ((Z22) : Int).toNat) := ⟨_, rfl⟩
       replace H : (impl_ProbeAll.l1 Z18 l0 Z14 l0 (l0.length : Int) Z15 Z31 (Z31.length : Int) 0 ((rd_T33 l0 Z15).f0) ((rd_T33 l0 Z15).f1)) = some r := yh
       have Z32 := ra hy_
       clear hy_
       have H' := ra H; clear H
       have Z33 : 0 ≤ (Z15 : Int) := od
       have Z34 : Z15 < (l0.length : Int) := od
       obtain ⟨Z35, Z36, Z37, Z38, Z39, Z40, Z41, Z42⟩ := at_T33 Z2.out Z15 Z33 Z34
       cases Z38
       replace Z39 := hc HB Z39
       replace Z40 := hc HB Z40
       have Z43 := ra Z42
       have Z44 := ra Z41
       clear Z42 Z41
       replace Z33 := eq_true Z33
       replace Z34 := eq_true Z34
       go_wp2_with (first | ((with_reducible refine gd 5 rfl ?_); refine bf 5 #[.string (⟨#[]⟩ : ByteArray), .slice none 0 0] 33 ?_; intro Z45 Z46 hg hb HB Z47 Z48; replace Z17 := ra (Kd.R_below (rq Z17) hb); obtain ⟨Z49, Z50, Z51, Z52⟩ := zc2 Z47; clear hg hb) | ((with_reducible refine gate_store (t := 33) (p := 5) rfl ?_); refine store_event (t := 33) (p := 5) (v := ?vo_w15) (w1 := ((Z46.setCell ⟨Z45, 0, none⟩ (.string ((rd_T33 l0 Z15).f0))).setCell ⟨Z45, 1, none⟩ (.slice Z36 ((rd_T33 l0 Z15).f1).length Z37))) ?hg ?ho ?hn ?hr ?_; (case ho => rfl); (case hg => rfl); (case hn => rfl); (case hr => first | (go_simp; done) | (go_simp; rfl)); intro Z53 hw; have _ : Aside0 (Kd.R k70 70 Z53 w.heap.size (fun _ => True) u3 Z14) := ⟨(by rw [hw]; exact (by (with_reducible repeat (first | apply Kd.R_alloc | apply Kd.R_drewN | apply Kd.R_drew)); exact Kd.R_mono (rf (Kd.R_types Z17.out Z47.out (by decide))) (fun _ hk => trivial)))⟩; have _ : Aside0 (Z53.heap[Z45]? = some (.cells #[.string ((rd_T33 l0 Z15).f0), .slice Z36 ((rd_T33 l0 Z15).f1).length Z37] 33 (0, 0))) := ⟨(by rw [hw]; exact (bp Z47))⟩; have _ : Aside0 (Below w.heap.size w Z53) := ⟨(by rw [hw]; exact bq)⟩; clear hw Z17 Z47 HB; rename_i Z17 Z47 HB; have Z54 : ((Z22) : Int) ≤ ((l0.length : Int) : Int) := od; obtain ⟨Z55, Z56, _, Z57, _⟩ := info_parts info33; have Z58 : l0.length ≤ c0 := Z3.out; have Z59 : Kd.C k33 _ (some Z35) l0.length l0 := Z2.out; have Z60 : (0 : Int) ≤ ((Z22) : Int) := od; have Z61 := cut_from (P := Tryz.prog) 30 33 .i64 Tryz.underlying30 Z56 2 Z57 (some Z35) l0.length c0 (Z22) Z60 Z54; have Z62 := Kd.C_drop (m := ((Z22) : Int).toNat) (c := c0) Z59 (by omega) Z58; obtain ⟨Z63, Z64⟩ : ∃ A1, A1 = (if c0 = ((Z22) : Int).toNat then (some Z35) else ((some Z35) : Option Addr).map (·.add (((Z22) : Int).toNat * 2))) := ⟨_, rfl⟩; obtain ⟨Z65, Z66⟩ : ∃ c1, c1 = c0 - ((Z22) : Int).toNat := ⟨_, rfl⟩; have Z67 : Z31.length = l0.length - ((Z22) : Int).toNat := (by rw [Z32.out, List.length_drop] <;> omega); rw [show (l0).drop ((Z22) : Int).toNat = Z31 from Z32.out.symm] at Z62; replace Z62 : Kd.C k33 _ Z63 Z31.length Z31 := (by rw [Z64]; exact Z62); rw [← Z67, ← Z64, ← Z66] at Z61; have Z68 := Aside0.mk Z62; have Z69 := ra (show Z31.length ≤ Z65 from by rw [Z67, Z66]; exact Nat.sub_le_sub_right Z58 _); clear Z62 Z59 Z58 Z56 Z57 Z66; have Z70 := Aside0.mk Z67; have Z71 := Aside0.mk Z64; clear Z67 Z64; replace Z54 := eq_true Z54))
       go_loopg [3, 26] Z18 (fun kq v3 v26 w' => ∃ (x3_2 : List (S70)) (x26_2 : Int), v26 = .int .i64 x26_2 ∧ Aside0 (impl_ProbeAll.l1 kq l0 x3_2 l0 (l0.length : Int) Z15 Z31 (Z31.length : Int) x26_2 ((rd_T33 l0 Z15).f0) ((rd_T33 l0 Z15).f1) = some r) ∧ Aside0 (kq ≤ Z18) ∧ Aside0 (Kd.R k70 70 w' w.heap.size (fun _ => True) v3 x3_2) ∧ Aside0 (w'.heap[Z45]? = some (.cells #[.string ((rd_T33 l0 Z15).f0), (.slice Z36 ((rd_T33 l0 Z15).f1).length Z37)] 33 (0, 0))) ∧ Aside0 (Below w.heap.size w w'))
       case atStart => exact ⟨_, _, rs, H', ⟨Nat.le_refl _⟩, ⟨rq Z17⟩, ⟨bk Z47⟩, ⟨bq⟩⟩
       case round =>
        clear H'
        try clear c1
        try clear Z19
        try clear Z20
        try clear Z21
        try clear Z25
        try clear Z26
        try clear Z27
        try clear Z28
        try clear Z29
        try clear Z30
        try clear Z65
        try clear Z54
        try clear Z49
        try clear Z50
        try clear Z51
        try clear Z52
        try clear Z39
        try clear Z40
        try clear Z33
        try clear Z60
        try clear Z54
        try clear Z34
        obtain ⟨Z72, Z73, rfl, HA, Z74, Z17, Z47, HB⟩ := hrel
        cases gk with
        | zero => exact absurd HA.out (by simp [impl_ProbeAll.l1])
        | succ Z75 =>
         have H := HA.out
         clear HA
         simp only [impl_ProbeAll.l1] at H
         rcases td H with ⟨Z76, H⟩ | ⟨Z76, H⟩
         ·obtain ⟨Z77, H⟩ := tn H
          obtain ⟨Z78, H⟩ := tn H
          obtain ⟨⟨Z79, Z80, Z81, Z82, Z83, Z84⟩, Z85, H⟩ := bo H
          try dsimp only at H
          rcases ud H with ⟨rfl, Z86⟩ | ⟨rfl, Z86⟩ <;> have H := Z86
          ·by_cases Z87 : Z72.length < 2513169434916
           ·rw [if_pos Z87] at H
            have Z88 := ra Z87; clear Z87
            obtain ⟨Z89, hy_⟩ : ∃ y_ : List (S70), y_ = (Z72 ++ [(⟨Z79, Z80, Z81, Z82, Z83⟩ : S70)]) := ⟨_, rfl⟩
            replace H : (impl_ProbeAll.l1 Z75 l0 Z89 l0 (l0.length : Int) Z15 Z31 (Z31.length : Int) (wrap64 (Z73 + 1)) ((rd_T33 l0 Z15).f0) ((rd_T33 l0 Z15).f1)) = some r := yh
            have Z90 := ra hy_
            clear hy_
            have H' := ra H; clear H
            have Z91 : 0 ≤ (Z73 : Int) := od
            have Z92 : Z73 < (Z31.length : Int) := od
            obtain ⟨Z93, Z94, Z95, Z96, Z97, Z98, Z99, Z100⟩ := at_T33 Z68.out Z73 Z91 Z92
            cases Z96
            replace Z97 := hc HB Z97
            replace Z98 := hc HB Z98
            have Z101 := ra Z100
            have Z102 := ra Z99
            clear Z100 Z99
            replace Z91 := eq_true Z91
            replace Z92 := eq_true Z92
            go_wp2_with (first | ((with_reducible refine gd 7 rfl ?_); refine bf 7 #[.string (⟨#[]⟩ : ByteArray), .slice none 0 0] 33 ?_; intro Z103 Z104 hg hb HB Z105 Z106; have Z107 := bn hg (bk Z47); have Z108 := bm hg (bk Z47); replace Z17 := ra (Kd.R_below (rq Z17) hb); replace Z47 := bb (bk Z47) hb; have Z109 := Z108.out; have Z110 := Z107.out; obtain ⟨Z111, Z112, Z113, Z114⟩ := zc2 Z105; obtain ⟨Z115, Z116, Z117, Z118⟩ := zc2 Z47; clear hg hb) | ((with_reducible refine gc 37 rfl ?_); refine gy (some 33) Tryz.func37 (impl_ProbeMeet.calls _ _ _ _ _ _ _ _ _ _ _ _ _ _ _ _ (Kd.C_below Z43.out bq) Z44.out (Kd.C_below Z101.out bq) Z102.out Z85.out) ?_; rintro Z119 hb; replace Z17 := ra (Kd.R_below (Kd.R_mono (rf (Kd.R_types Z17.out Z105.out (by decide))) (fun _ h_ => h_.1)) hb); replace Z47 := bb (bk Z47) hb; replace Z105 := bb (o := .cells #[.string ((rd_T33 Z31 Z73).f0), .slice Z94 ((rd_T33 Z31 Z73).f1).length Z95] 33 (0, 0)) (bp Z105) hb; replace HB := bs hb; clear hb) | ((with_reducible refine gd 8 rfl ?_); refine bf 8 #[.string (⟨#[]⟩ : ByteArray), .string (⟨#[]⟩ : ByteArray), .int .i64 0, .int .i64 0, .int .i64 0] 70 ?_; intro Z120 Z121 hg hb HB Z122 Z123; have Z124 := bn hg (bk Z47); have Z125 := bm hg (bk Z47); have Z126 := bn hg (bk Z105); have Z127 := bm hg (bk Z105); replace Z17 := ra (Kd.R_below (Kd.R_elderB (rq Z17) Z120 (Nat.le_of_eq hg.symm)) hb); replace Z47 := bb (bk Z47) hb; replace Z105 := bb (bk Z105) hb; have Z128 := Z125.out; have Z129 := Z124.out; have Z130 := Z127.out; have Z131 := Z126.out; obtain ⟨Z132, Z133, Z134, Z135, Z136, Z137, Z138, Z139, Z140, Z141⟩ := zc5 Z122; clear hg hb) | ((with_reducible refine gate_builtin (b := .append) (xs := #[.tmp 37, .tmp 39]) rfl ?_); at_builtin; refine Kd.R_append k70 (w0 := w) w.heap.size rfl (.tmp 37) (.tmp 39) 57 70 (.agg #[(.string ⟨#[]⟩), (.string ⟨#[]⟩), (.int .i64 0), (.int .i64 0), (.int .i64 0)]) 56 rfl Tryz.underlying57 info70 rfl (by decide) (by omega) u3 Z72 (⟨Z79, Z80, Z81, Z82, Z83⟩ : S70) [.string Z79, .string Z80, .int .i64 Z81, .int .i64 Z82, .int .i64 Z83] (fun k_ => k_ ≠ Z120) (fun _ => False) rfl (by first | (go_simp; done) | (go_simp; rfl)) ?aP (fun _ hk => hk.elim) ?aF ?aO ?aB ?aS ?aL ?_; (case aP => exact k70_mkM _ _ _ (⟨Z79, Z80, Z81, Z82, Z83⟩ : S70)); (case aB => exact bq); (case aF => exact (fun k_ hk => Kd.freshB (g := Z120) (o := .cells #[.string Z79, .string Z80, .int .i64 Z81, .int .i64 Z82, .int .i64 Z83] 70 (0, 0)) (bp Z122) k_ hk)); (case aO => exact (by (with_reducible repeat (first | apply Kd.R_alloc | apply Kd.R_drewN | apply Kd.R_drew)); exact Kd.R_mono (rf (Kd.R_mono Z17.out (fun k_ hk => (⟨hk, hk.2⟩ : _ ∧ k_ ≠ Z120)))) (fun _ hk => hk.1.2))); (case aS => exact (below_size bq)); (case aL => have := Z88.out; omega); intro Z142 Z143 ho hb hg hat; rw [← Z90.out] at ho; have _ := ra (blk_grown (g := Z45) (o := .cells #[.string ((rd_T33 l0 Z15).f0), .slice Z36 ((rd_T33 l0 Z15).f1).length Z37] 33 (0, 0)) (bk Z47) hg (Kd.R_ne Z17.out Z47.out (by decide))); have _ := ra (blk_grown (g := Z103) (o := .cells #[.string ((rd_T33 Z31 Z73).f0), .slice Z94 ((rd_T33 Z31 Z73).f1).length Z95] 33 (0, 0)) (bk Z105) hg (Kd.R_ne Z17.out Z105.out (by decide))); have _ := ra (blk_grown (g := Z120) (o := .cells #[.string Z79, .string Z80, .int .i64 Z81, .int .i64 Z82, .int .i64 Z83] 70 (0, 0)) (bp Z122) hg (Kd.R_away Z17.out (fun _ hk => hk.2))); have _ := ra (hb); have _ := ra (ho); clear Z47 Z105 Z122 HB Z17; rename_i Z47 Z105 Z122 HB Z144; clear ho hb hg hat))
            go_roundg Z75
            case measure => have := Z16.out; have := Z74.out; omega
            case rel => exact ⟨_, _, rs, H', ⟨by have := Z16.out; have := Z74.out; omega⟩, ⟨by (with_reducible repeat (first | apply Kd.R_alloc | apply Kd.R_drewN | apply Kd.R_drew)); exact Kd.R_mono Z144.out (fun _ hk => trivial)⟩, ⟨bk Z47⟩, ⟨bq⟩⟩
           ·rw [if_neg Z87] at H
            exact absurd H (by simp)
          ·have H' := ra H; clear H
           have Z87 : 0 ≤ (Z73 : Int) := od
           have Z88 : Z73 < (Z31.length : Int) := od
           obtain ⟨Z89, Z90, Z91, Z92, Z93, Z94, Z95, Z96⟩ := at_T33 Z68.out Z73 Z87 Z88
           cases Z92
           replace Z93 := hc HB Z93
           replace Z94 := hc HB Z94
           have Z97 := ra Z96
           have Z98 := ra Z95
           clear Z96 Z95
           replace Z87 := eq_true Z87
           replace Z88 := eq_true Z88
           go_wp2_with (first | ((with_reducible refine gd 7 rfl ?_); refine bf 7 #[.string (⟨#[]⟩ : ByteArray), .slice none 0 0] 33 ?_; intro Z99 Z100 hg hb HB Z101 Z102; have Z103 := bn hg (bk Z47); have Z104 := bm hg (bk Z47); replace Z17 := ra (Kd.R_below (rq Z17) hb); replace Z47 := bb (bk Z47) hb; have Z105 := Z104.out; have Z106 := Z103.out; obtain ⟨Z107, Z108, Z109, Z110⟩ := zc2 Z101; obtain ⟨Z111, Z112, Z113, Z114⟩ := zc2 Z47; clear hg hb) | ((with_reducible refine gc 37 rfl ?_); refine gy (some 33) Tryz.func37 (impl_ProbeMeet.calls _ _ _ _ _ _ _ _ _ _ _ _ _ _ _ _ (Kd.C_below Z43.out bq) Z44.out (Kd.C_below Z97.out bq) Z98.out Z85.out) ?_; rintro Z115 hb; replace Z17 := ra (Kd.R_below (Kd.R_mono (rf (Kd.R_types Z17.out Z101.out (by decide))) (fun _ h_ => h_.1)) hb); replace Z47 := bb (bk Z47) hb; replace Z101 := bb (o := .cells #[.string ((rd_T33 Z31 Z73).f0), .slice Z90 ((rd_T33 Z31 Z73).f1).length Z91] 33 (0, 0)) (bp Z101) hb; replace HB := bs hb; clear hb) | ((with_reducible refine gd 8 rfl ?_); refine bf 8 #[.string (⟨#[]⟩ : ByteArray), .string (⟨#[]⟩ : ByteArray), .int .i64 0, .int .i64 0, .int .i64 0] 70 ?_; intro Z116 Z117 hg hb HB Z118 Z119; have Z120 := bn hg (bk Z47); have Z121 := bm hg (bk Z47); have Z122 := bn hg (bk Z101); have Z123 := bm hg (bk Z101); replace Z17 := ra (Kd.R_below (Kd.R_elderB (rq Z17) Z116 (Nat.le_of_eq hg.symm)) hb); replace Z47 := bb (bk Z47) hb; replace Z101 := bb (bk Z101) hb; have Z124 := Z121.out; have Z125 := Z120.out; have Z126 := Z123.out; have Z127 := Z122.out; obtain ⟨Z128, Z129, Z130, Z131, Z132, Z133, Z134, Z135, Z136, Z137⟩ := zc5 Z118; clear hg hb))
           go_roundg Z75
           case measure => have := Z16.out; have := Z74.out; omega
           case rel => exact ⟨_, _, rs, H', ⟨by have := Z16.out; have := Z74.out; omega⟩, ⟨by (with_reducible repeat (first | apply Kd.R_alloc | apply Kd.R_drewN | apply Kd.R_drew)); exact Kd.R_mono (rf (Kd.R_mono Z17.out (fun k_ hk => (⟨hk, hk.2⟩ : _ ∧ k_ ≠ Z116)))) (fun _ hk => trivial)⟩, ⟨bk Z47⟩, ⟨bq⟩⟩
         ·have H' := ra H; clear H
          go_wp2
          go_roundg Z75
          case measure => have := Z16.out; have := Z74.out; omega
          case rel => exact ⟨_, _, rs, H', ⟨by have := Z16.out; have := Z74.out; omega⟩, ⟨rq Z17⟩, ⟨bq⟩⟩
      ·rw [if_neg Z28] at H
       exact absurd H (by simp)
     ·rw [if_neg Z25] at H
      exact absurd H (by simp)
    ·obtain rfl := Option.some.inj H
     go_wp2
     go_ret
     exact ⟨_, re, rq Z17, bq⟩
 ·obtain rfl := Option.some.inj H
  go_enter Tryz.func33, Tryz.ntmps33
  go_wp2_with (first | ((with_reducible refine gc 60 rfl ?_); refine gy (some 11) Tryz.func60 (impl_ProbeSkyOk.calls _ _ _ _ _ _ (by repeat (first | exact Z2.out | (with_reducible refine Kd.C_alloc ?_ _) | (with_reducible refine Kd.C_drewN ?_ _) | (with_reducible refine Kd.C_drew ?_))) Z3.out Z5.out) ?_; rintro Z7 hb; replace HB := bs hb; clear hb))
  go_ret
  exact ⟨_, re, by first | exact Kd.R_nil _ _ _ _ _ | exact Kd.N_nil _ _ _ _ _ | exact Kd.V_nil _ _ _ _ _ | exact Kd.Q_nil _ _ _ _ _ | exact Kd.S_nil _ _ _ _ _, bq⟩
def impl_clash.T2 : Bool × List (List Nat × List Nat) := (true, [([], []), ([0], [0]), ([1], [1]), ([], []), ([3], [3]), ([2, 4], [2, 4]), ([5], [5]), ([], []), ([], []), ([8], [8]), ([7, 9], [7, 9]), ([6, 10], [6, 10]), ([11], [11]), ([], []), ([], []), ([14], [14]), ([13, 15, 10], [13, 15]), ([12, 16], [12, 16]), ([17], [17]), ([], []), ([], []), ([20], [20]), ([19, 21, 16], [19, 21]), ([18, 22], [18, 22]), ([23, 22, 0, 1, 2, 3, 4, 5, 6, 7, 8, 9, 10, 11, 12, 13, 14, 15, 16, 17, 18, 19, 20, 21, 22, 23], [23])])
def impl_clash.B2 : List Nat := [0, 1, 3, 0, 8, 31, 63, 0, 0, 256, 896, 2047, 4095, 0, 0, 16384, 59264, 131071, 262143, 0, 0, 1048576, 3794816, 8388607, 16777215]
theorem impl_clash.tab2 : rtab .any (opsOf Tryz.f38 2) = impl_clash.T2 := by kernel_rfl
theorem impl_clash.bits2 : waitsOk impl_clash.T2.2 impl_clash.B2 = true := by kernel_rfl
theorem impl_clash.calls (a0_0 a0_1 : ByteArray) (a0_2 a0_3 a0_4 : Int) (r : ByteArray) (w : World) (hWG : Lb.WG w) (h : impl_clash.f a0_0 a0_1 a0_2 a0_3 a0_4 = some r) :
  Calls Tryz.prog 38 #[.agg #[.string a0_0, .string a0_1, .int .i64 a0_2, .int .i64 a0_3, .int .i64 a0_4]] w fun e w' => e = .returned (.string r) ∧ Below w.heap.size w w' := by
 have Z0 := Tryz.underlying70
 have HB := ra (Below.refl w.heap.size w)
 have HWG := ra hWG; clear hWG
 have H := h; unfold impl_clash.f at H
 clear h
 by_cases Z1 : a0_0.size + 1 ≤ 9223372036854775807
 ·rw [if_pos Z1] at H
  have Z2 := eq_true Z1
  have Z3 : decide (a0_0.size + 1 ≤ 9223372036854775807) = true := decide_eq_true Z1
  try have Z4 : (9223372036854775807 < a0_0.size + 1) = False := eq_false (Nat.not_lt.2 Z1)
  by_cases Z5 : (a0_0 ++ (⟨#[47]⟩ : ByteArray)).size + a0_1.size ≤ 9223372036854775807
  ·rw [if_pos Z5] at H
   have Z6 := eq_true Z5
   have Z7 : decide ((a0_0 ++ (⟨#[47]⟩ : ByteArray)).size + a0_1.size ≤ 9223372036854775807) = true := decide_eq_true Z5
   try have Z8 : (9223372036854775807 < (a0_0 ++ (⟨#[47]⟩ : ByteArray)).size + a0_1.size) = False := eq_false (Nat.not_lt.2 Z5)
   try have Z9 : (9223372036854775807 < a0_0.size + 1 + a0_1.size) = False := by (have t_ := Z8; simp only [ByteArray.size_append] at t_; exact t_)
   by_cases Z10 : ((a0_0 ++ (⟨#[47]⟩ : ByteArray)) ++ a0_1).size + 1 ≤ 9223372036854775807
   ·rw [if_pos Z10] at H
    have Z11 := eq_true Z10
    have Z12 : decide (((a0_0 ++ (⟨#[47]⟩ : ByteArray)) ++ a0_1).size + 1 ≤ 9223372036854775807) = true := decide_eq_true Z10
    try have Z13 : (9223372036854775807 < ((a0_0 ++ (⟨#[47]⟩ : ByteArray)) ++ a0_1).size + 1) = False := eq_false (Nat.not_lt.2 Z10)
    try have Z14 : (9223372036854775807 < a0_0.size + 1 + a0_1.size + 1) = False := by (have t_ := Z13; simp only [ByteArray.size_append] at t_; exact t_)
    obtain ⟨Z15, Z16, H⟩ := bo H
    by_cases Z17 : (((a0_0 ++ (⟨#[47]⟩ : ByteArray)) ++ a0_1) ++ (⟨#[64]⟩ : ByteArray)).size + Z15.size ≤ 9223372036854775807
    ·rw [if_pos Z17] at H
     have Z18 := eq_true Z17
     have Z19 : decide ((((a0_0 ++ (⟨#[47]⟩ : ByteArray)) ++ a0_1) ++ (⟨#[64]⟩ : ByteArray)).size + Z15.size ≤ 9223372036854775807) = true := decide_eq_true Z17
     try have Z20 : (9223372036854775807 < (((a0_0 ++ (⟨#[47]⟩ : ByteArray)) ++ a0_1) ++ (⟨#[64]⟩ : ByteArray)).size + Z15.size) = False := eq_false (Nat.not_lt.2 Z17)
     try have Z21 : (9223372036854775807 < a0_0.size + 1 + a0_1.size + 1 + Z15.size) = False := by (have t_ := Z20; simp only [ByteArray.size_append] at t_; exact t_)
     by_cases Z22 : ((((a0_0 ++ (⟨#[47]⟩ : ByteArray)) ++ a0_1) ++ (⟨#[64]⟩ : ByteArray)) ++ Z15).size + 1 ≤ 9223372036854775807
     ·rw [if_pos Z22] at H
      have Z23 := eq_true Z22
      have Z24 : decide (((((a0_0 ++ (⟨#[47]⟩ : ByteArray)) ++ a0_1) ++ (⟨#[64]⟩ : ByteArray)) ++ Z15).size + 1 ≤ 9223372036854775807) = true := decide_eq_true Z22
      try have Z25 : (9223372036854775807 < ((((a0_0 ++ (⟨#[47]⟩ : ByteArray)) ++ a0_1) ++ (⟨#[64]⟩ : ByteArray)) ++ Z15).size + 1) = False := eq_false (Nat.not_lt.2 Z22)
      try have Z26 : (9223372036854775807 < a0_0.size + 1 + a0_1.size + 1 + Z15.size + 1) = False := by (have t_ := Z25; simp only [ByteArray.size_append] at t_; exact t_)
      obtain ⟨Z27, Z28, H⟩ := bo H
      by_cases Z29 : (((((a0_0 ++ (⟨#[47]⟩ : ByteArray)) ++ a0_1) ++ (⟨#[64]⟩ : ByteArray)) ++ Z15) ++ (⟨#[58]⟩ : ByteArray)).size + Z27.size ≤ 9223372036854775807
      ·rw [if_pos Z29] at H
       have Z30 := eq_true Z29
       have Z31 : decide ((((((a0_0 ++ (⟨#[47]⟩ : ByteArray)) ++ a0_1) ++ (⟨#[64]⟩ : ByteArray)) ++ Z15) ++ (⟨#[58]⟩ : ByteArray)).size + Z27.size ≤ 9223372036854775807) = true := decide_eq_true Z29
       try have Z32 : (9223372036854775807 < (((((a0_0 ++ (⟨#[47]⟩ : ByteArray)) ++ a0_1) ++ (⟨#[64]⟩ : ByteArray)) ++ Z15) ++ (⟨#[58]⟩ : ByteArray)).size + Z27.size) = False := eq_false (Nat.not_lt.2 Z29)
       try have Z33 : (9223372036854775807 < a0_0.size + 1 + a0_1.size + 1 + Z15.size + 1 + Z27.size) = False := by (have t_ := Z32; simp only [ByteArray.size_append] at t_; exact t_)
       by_cases Z34 : ((((((a0_0 ++ (⟨#[47]⟩ : ByteArray)) ++ a0_1) ++ (⟨#[64]⟩ : ByteArray)) ++ Z15) ++ (⟨#[58]⟩ : ByteArray)) ++ Z27).size + 1 ≤ 9223372036854775807
       ·rw [if_pos Z34] at H
        have Z35 := eq_true Z34
        have Z36 : decide (((((((a0_0 ++ (⟨#[47]⟩ : ByteArray)) ++ a0_1) ++ (⟨#[64]⟩ : ByteArray)) ++ Z15) ++ (⟨#[58]⟩ : ByteArray)) ++ Z27).size + 1 ≤ 9223372036854775807) = true := decide_eq_true Z34
        try have Z37 : (9223372036854775807 < ((((((a0_0 ++ (⟨#[47]⟩ : ByteArray)) ++ a0_1) ++ (⟨#[64]⟩ : ByteArray)) ++ Z15) ++ (⟨#[58]⟩ : ByteArray)) ++ Z27).size + 1) = False := eq_false (Nat.not_lt.2 Z34)
        try have Z38 : (9223372036854775807 < a0_0.size + 1 + a0_1.size + 1 + Z15.size + 1 + Z27.size + 1) = False := by (have t_ := Z37; simp only [ByteArray.size_append] at t_; exact t_)
        obtain ⟨Z39, Z40, H⟩ := bo H
        by_cases Z41 : (((((((a0_0 ++ (⟨#[47]⟩ : ByteArray)) ++ a0_1) ++ (⟨#[64]⟩ : ByteArray)) ++ Z15) ++ (⟨#[58]⟩ : ByteArray)) ++ Z27) ++ (⟨#[44]⟩ : ByteArray)).size + Z39.size ≤ 9223372036854775807
        ·rw [if_pos Z41] at H
         have Z42 := eq_true Z41
         have Z43 : decide ((((((((a0_0 ++ (⟨#[47]⟩ : ByteArray)) ++ a0_1) ++ (⟨#[64]⟩ : ByteArray)) ++ Z15) ++ (⟨#[58]⟩ : ByteArray)) ++ Z27) ++ (⟨#[44]⟩ : ByteArray)).size + Z39.size ≤ 9223372036854775807) = true := decide_eq_true Z41
         try have Z44 : (9223372036854775807 < (((((((a0_0 ++ (⟨#[47]⟩ : ByteArray)) ++ a0_1) ++ (⟨#[64]⟩ : ByteArray)) ++ Z15) ++ (⟨#[58]⟩ : ByteArray)) ++ Z27) ++ (⟨#[44]⟩ : ByteArray)).size + Z39.size) = False := eq_false (Nat.not_lt.2 Z41)
         try have Z45 : (9223372036854775807 < a0_0.size + 1 + a0_1.size + 1 + Z15.size + 1 + Z27.size + 1 + Z39.size) = False := by (have t_ := Z44; simp only [ByteArray.size_append] at t_; exact t_)
         obtain rfl := Option.some.inj H
         go_enter Tryz.func38, Tryz.ntmps38
         try go_wp2_with (first | ((with_reducible refine gd 1 rfl ?_); refine bd 1 #[.string a0_0, .string a0_1, .int .i64 a0_2, .int .i64 a0_3, .int .i64 a0_4] 70 ?_; intro Z46 Z47 HB Z48 Z49))
         have _ := ra (blk_drew Z48.out)
         have _ := ra (below_drew1 HB.out)
         clear Z48 HB
         rename_i Z48 HB
         refine start_ (n := 25) (S := fun w' => w'.cell? ⟨Z46, 0, none⟩ = some (.string a0_0) ∧ w'.cell? ⟨Z46, 1, none⟩ = some (.string a0_1) ∧ w'.cell? ⟨Z46, 2, none⟩ = some (.int .i64 a0_2) ∧ w'.cell? ⟨Z46, 3, none⟩ = some (.int .i64 a0_3) ∧ w'.cell? ⟨Z46, 4, none⟩ = some (.int .i64 a0_4)) (ds := []) (bl 25 0) (by kernel_rfl) rfl rfl ⟨(blk_cell Z48.out 0).trans rfl, (blk_cell Z48.out 1).trans rfl, (blk_cell Z48.out 2).trans rfl, (blk_cell Z48.out 3).trans rfl, (blk_cell Z48.out 4).trans rfl⟩ (fun hHeld => ?_); refine with_tabW impl_clash.tab2 impl_clash.bits2 (fun HT_ HW_ => ?_)
         generalize Z47.drew = Z50 at Z48 HB hHeld ⊢
         refine pu 0 4 (bl 25 1) ?_
         refine pu 3 7 (bl 25 9) ?_
         refine pu 7 11 (bl 25 137) ?_
         refine pu 8 12 (bl 25 393) ?_
         refine pu 13 17 (bl 25 8585) ?_
         refine pu 14 18 (bl 25 24969) ?_
         refine pu 19 23 (bl 25 549257) ?_
         refine pu 20 24 (bl 25 1597833) ?_
         refine tk 1 5 (bl 25 1597835) ?_ hHeld
         refine pu 2 6 (bl 25 1597839) ?_
         refine tk 4 8 (bl 25 1597855) ?_ hHeld
         refine pu 5 9 (bl 25 1597887) ?_
         refine pu 6 10 (bl 25 1597951) ?_
         refine tk 9 13 (bl 25 1598463) ?_ hHeld
         refine tk 15 19 (bl 25 1631231) ?_ hHeld
         refine tk 21 25 (bl 25 3728383) ?_ hHeld
         refine oe 10 14 (bl 25 3729407) (fun K hK => ?_)
         refine Lb.gd Tryz.func41 #[.int .i64 a0_2] ?_
         with_reducible refine (Lb.itoa.calls a0_2 Z15 _ (Lb.wg HWG) Z16.out).mono ?_
         rintro e Z51 ⟨rfl, hb⟩
         refine ⟨_, rfl, ?_⟩
         have _ := bb (bk Z48) hb
         have _ := bs hb
         clear Z48 HB
         rename_i Z48 HB
         (try clear hb)
         refine hK.out _ _ ⟨(blk_cell Z48.out 0).trans rfl, (blk_cell Z48.out 1).trans rfl, (blk_cell Z48.out 2).trans rfl, (blk_cell Z48.out 3).trans rfl, (blk_cell Z48.out 4).trans rfl⟩ (fun hHeld => ?_)
         clear hK K
         refine nm 14 ?_
         refine pu 11 15 (bl 25 3731455) ?_
         refine pu 12 16 (bl 25 3735551) ?_
         refine oe 16 20 (bl 25 3801087) (fun K hK => ?_)
         refine Lb.gd Tryz.func41 #[.int .i64 a0_3] ?_
         with_reducible refine (Lb.itoa.calls a0_3 Z27 _ (Lb.wg HWG) Z28.out).mono ?_
         rintro e Z52 ⟨rfl, hb⟩
         refine ⟨_, rfl, ?_⟩
         have _ := bb (bk Z48) hb
         have _ := bs hb
         clear Z48 HB
         rename_i Z48 HB
         (try clear hb)
         refine hK.out _ _ ⟨(blk_cell Z48.out 0).trans rfl, (blk_cell Z48.out 1).trans rfl, (blk_cell Z48.out 2).trans rfl, (blk_cell Z48.out 3).trans rfl, (blk_cell Z48.out 4).trans rfl⟩ (fun hHeld => ?_)
         clear hK K
         refine nm 20 ?_
         refine pu 17 21 (bl 25 3932159) ?_
         refine pu 18 22 (bl 25 4194303) ?_
         refine oe 22 26 (bl 25 8388607) (fun K hK => ?_)
         refine Lb.gd Tryz.func41 #[.int .i64 a0_4] ?_
         with_reducible refine (Lb.itoa.calls a0_4 Z39 _ (Lb.wg HWG) Z40.out).mono ?_
         rintro e Z53 ⟨rfl, hb⟩
         refine ⟨_, rfl, ?_⟩
         have _ := bb (bk Z48) hb
         have _ := bs hb
         clear Z48 HB
         rename_i Z48 HB
         (try clear hb)
         refine hK.out _ _ ⟨(blk_cell Z48.out 0).trans rfl, (blk_cell Z48.out 1).trans rfl, (blk_cell Z48.out 2).trans rfl, (blk_cell Z48.out 3).trans rfl, (blk_cell Z48.out 4).trans rfl⟩ (fun hHeld => ?_)
         clear hK K
         refine nm 26 ?_
         refine pu 23 27 (bl 25 16777215) ?_
         refine pu 24 2 (bl 25 33554431) ?_
         refine done_ (done_of HT_.out (by kernel_rfl)) ?_
         try go_wp2
         go_ret
         exact ⟨re, bq⟩
        ·rw [if_neg Z41] at H
         exact absurd H (by simp)
       ·rw [if_neg Z34] at H
        exact absurd H (by simp)
      ·rw [if_neg Z29] at H
       exact absurd H (by simp)
     ·rw [if_neg Z22] at H
      exact absurd H (by simp)
    ·rw [if_neg Z17] at H
     exact absurd H (by simp)
   ·rw [if_neg Z10] at H
    exact absurd H (by simp)
  ·rw [if_neg Z5] at H
   exact absurd H (by simp)
 ·rw [if_neg Z1] at H
  exact absurd H (by simp)
theorem impl_clashes.calls (k : Nat) (A0 : Option Addr) (c0 : Nat) (l0 : List (S70)) (r : ByteArray) (w : World) (hWG : Lb.WG w) (hr0 : Kd.C k70 w A0 l0.length l0) (hc0 : l0.length ≤ c0) (h : impl_clashes.f k l0 = some r) :
  Calls Tryz.prog 32 #[.slice A0 l0.length c0] w fun e w' => e = .returned (.string r) ∧ Below w.heap.size w w' := by
 have Z0 := Tryz.underlying70
 have Z1 := ra hr0
 have Z2 := ra hc0
 clear hr0 hc0
 have HB := ra (Below.refl w.heap.size w)
 have HWG := ra hWG; clear hWG
 have H := h; unfold impl_clashes.f at H
 clear h
 rcases ed H with ⟨-, Z3, Z4, H⟩ | ⟨Z5, Z3, Z4, H⟩
 ·obtain rfl := Option.some.inj H
  go_enter Tryz.func32, Tryz.ntmps32
  go_wp2
  go_ret
  exact ⟨re, bq⟩
 ·have Z6 : ¬ (l0 = []) := fun h_ => Z5 (by rw [h_]; rfl)
  obtain ⟨Z7, hy_⟩ : ∃ y_ : List ByteArray, y_ = (([] : List ByteArray)) := ⟨_, rfl⟩
  replace H : (impl_clashes.l0 k Z7 l0 (l0.length : Int) 0) = some r := yh
  have Z8 := ra hy_
  clear hy_
  have H' := ra H; clear H
  go_enter Tryz.func32, Tryz.ntmps32
  go_wp2_with (first | ((with_reducible refine gd 9 rfl ?_); refine Kd.R_lit Kd.string _ 9 ?hg (N := 9) ?hd (xs := ([] : List ByteArray)) (inner := []) (ok := fun _ => True) (okp := fun _ => True) ?hr ?hp (fun _ hk => hk) trivial (Below.refl _ _) (Nat.le_refl _) (by simp) ?_; (case hd => rfl); (case hg => rfl); (case hr => first | (go_simp; done) | (go_simp; rfl)); (case hp => exact (Reps.none _ _)); intro Z9 Z10 Z11 hb hg_ hnew_; clear hg_ hnew_; (first | rw [← Z8.out] at Z11 | (simp only [Int.reduceToNat] at Z11; rw [← Z8.out] at Z11)); have Z12 := ra (Kd.R_lower Z11 (below_size bq)); replace HB := bs hb; clear hb Z11))
  go_loopg [3, 12] k (fun kq v3 v12 w' => ∃ (x3_1 : List ByteArray) (x12_1 : Int), v12 = .int .i64 x12_1 ∧ Aside0 (impl_clashes.l0 kq x3_1 l0 (l0.length : Int) x12_1 = some r) ∧ Aside0 (kq ≤ k) ∧ Aside0 (Kd.R Kd.string 9 w' w.heap.size (fun _ => True) v3 x3_1) ∧ Aside0 (Below w.heap.size w w'))
  case atStart => exact ⟨_, _, rs, H', ⟨Nat.le_refl _⟩, ⟨rq Z12⟩, ⟨bq⟩⟩
  case round =>
   clear H'
   try clear Z5
   try clear Z3
   try clear Z4
   try clear Z6
   obtain ⟨Z13, Z14, rfl, HA, Z15, Z16, HB⟩ := hrel
   cases gk with
   | zero => exact absurd HA.out (by simp [impl_clashes.l0])
   | succ Z17 =>
    have H := HA.out
    clear HA
    simp only [impl_clashes.l0] at H
    rcases td H with ⟨Z18, H⟩ | ⟨Z18, H⟩
    ·obtain ⟨Z19, H⟩ := tn H
     obtain ⟨Z20, H⟩ := tn H
     obtain ⟨Z21, Z22, H⟩ := bo H
     by_cases Z23 : Z13.length < 8796093022208
     ·rw [if_pos Z23] at H
      have Z24 := ra Z23; clear Z23
      obtain ⟨Z25, hy_⟩ : ∃ y_ : List ByteArray, y_ = (Z13 ++ [Z21]) := ⟨_, rfl⟩
      replace H : (impl_clashes.l0 Z17 Z25 l0 (l0.length : Int) (wrap64 (Z14 + 1))) = some r := yh
      have Z26 := ra hy_
      clear hy_
      have H' := ra H; clear H
      have Z27 : 0 ≤ (Z14 : Int) := od
      have Z28 : Z14 < (l0.length : Int) := od
      obtain ⟨Z29, Z30, Z31, Z32, Z33, Z34, Z35⟩ := at_T70 Z1.out Z14 Z27 Z28
      cases Z30
      replace Z31 := hc HB Z31
      replace Z32 := hc HB Z32
      replace Z33 := hc HB Z33
      replace Z34 := hc HB Z34
      replace Z35 := hc HB Z35
      replace Z27 := eq_true Z27
      replace Z28 := eq_true Z28
      go_wp2_with (first | ((with_reducible refine gd 5 rfl ?_); refine bf 5 #[.string (⟨#[]⟩ : ByteArray), .string (⟨#[]⟩ : ByteArray), .int .i64 0, .int .i64 0, .int .i64 0] 70 ?_; intro Z36 Z37 hg hb HB Z38 Z39; replace Z16 := ra (Kd.R_below (rq Z16) hb); obtain ⟨Z40, Z41, Z42, Z43, Z44, Z45, Z46, Z47, Z48, Z49⟩ := zc5 Z38; clear hg hb) | ((with_reducible refine gc 38 rfl ?_); refine gy (some 18) Tryz.func38 (impl_clash.calls _ _ _ _ _ _ _ (Lb.wg HWG) Z22.out) ?_; rintro Z50 hb; replace Z16 := ra (Kd.R_below (Kd.R_mono (rf (Kd.R_types Z16.out Z38.out (by decide))) (fun _ h_ => h_.1)) hb); replace Z38 := bb (o := .cells #[.string ((rd_T70 l0 Z14).f0), .string ((rd_T70 l0 Z14).f1), .int .i64 ((rd_T70 l0 Z14).f2), .int .i64 ((rd_T70 l0 Z14).f3), .int .i64 ((rd_T70 l0 Z14).f4)] 70 (0, 0)) (bp Z38) hb; replace HB := bs hb; clear hb) | ((with_reducible refine gate_builtin (b := .append) (xs := #[.tmp 16, .tmp 19]) rfl ?_); at_builtin; refine Kd.R_append Kd.string (w0 := w) w.heap.size rfl (.tmp 16) (.tmp 19) 27 9 (.string ⟨#[]⟩) 16 rfl Tryz.underlying27 info9 rfl (by decide) (by omega) u3 Z13 Z21 [.string Z21] (fun _ => True) (fun _ => False) rfl rfl ?aP (fun _ hk => hk.elim) ?aF ?aO ?aB ?aS ?aL ?_; (case aP => exact rfl); (case aB => exact bq); (case aF => exact (fun _ _ => trivial)); (case aO => exact (rq Z16)); (case aS => exact (below_size bq)); (case aL => have := Z24.out; omega); intro Z51 Z52 ho hb hg hat; rw [← Z26.out] at ho; have _ := ra (blk_grown (g := Z36) (o := .cells #[.string ((rd_T70 l0 Z14).f0), .string ((rd_T70 l0 Z14).f1), .int .i64 ((rd_T70 l0 Z14).f2), .int .i64 ((rd_T70 l0 Z14).f3), .int .i64 ((rd_T70 l0 Z14).f4)] 70 (0, 0)) (bk Z38) hg (Kd.R_ne Z16.out Z38.out (by decide))); have _ := ra (hb); have _ := ra (ho); clear Z38 HB Z16; rename_i Z38 HB Z53; clear ho hb hg hat))
      go_roundg Z17
      case measure => have := Z15.out; omega
      case rel => exact ⟨_, _, rs, H', ⟨by have := Z15.out; omega⟩, ⟨rq Z53⟩, ⟨bq⟩⟩
     ·rw [if_neg Z23] at H
      exact absurd H (by simp)
    ·obtain ⟨Z19, Z20, H⟩ := bo H
     obtain rfl := Option.some.inj H
     obtain ⟨Z21, Z22, Z23⟩ := Kd.R_slice Z16.out
     subst Z23
     go_wp2_with (first | ((with_reducible refine gc 59 rfl ?_); refine gy (some 23) Tryz.func59 (Lb.join.calls _ _ _ _ _ _ (sr Z16) ((Kd.R_reads' Z16.out).2.1) Z20.out) ?_; rintro Z24 hb; replace Z16 := ra (Kd.R_below (rq Z16) hb); replace HB := bs hb; clear hb))
     go_ret
     exact ⟨re, bq⟩
theorem impl_ProbeWith.calls (k : Nat) (A0 : Option Addr) (c0 : Nat) (l0 : List (S33)) (a1_0 : ByteArray) (A1_1 : Option Addr) (c1_1 : Nat) (l1_1 : List (S46)) (r : List (S70)) (w : World) (hr0 : Kd.C k33 w A0 l0.length l0) (hc0 : l0.length ≤ c0) (hr1_1 : Kd.C k46 w A1_1 l1_1.length l1_1) (hc1_1 : l1_1.length ≤ c1_1) (h : impl_ProbeWith.f k l0 a1_0 l1_1 = some r) :
  Calls Tryz.prog 34 #[.slice A0 l0.length c0, .agg #[.string a1_0, .slice A1_1 l1_1.length c1_1]] w fun e w' => ∃ v0_ : Value, e = .returned (v0_) ∧ Kd.R k70 70 w' w.heap.size (fun _ => True) v0_ r ∧ Below w.heap.size w w' := by
 have Z0 := Tryz.underlying33
 have Z1 := Tryz.underlying70
 have Z2 := ra hr0
 have Z3 := ra hc0
 clear hr0 hc0
 have Z4 := ra hr1_1
 have Z5 := ra hc1_1
 clear hr1_1 hc1_1
 have HB := ra (Below.refl w.heap.size w)
 have H := h; unfold impl_ProbeWith.f at H
 clear h
 have Z6 := ra H; clear H
 go_enter Tryz.func34, Tryz.ntmps34
 go_upto_region 1 with (first | ((with_reducible refine gd 3 rfl ?_); refine bd 3 #[.string a1_0, .slice A1_1 l1_1.length c1_1] 33 ?_; intro Z7 Z8 HB Z9 Z10))
 (try simp only [Act.put, List.setIfInBounds_toArray, List.set_cons_zero, List.set_cons_succ])
 go_cut [17] (fun v17 wc => ∃ (kq : Nat) (x17_2 : Bool), v17 = .bool x17_2 ∧ Aside0 (impl_ProbeWith.j0 kq l0 x17_2 a1_0 l1_1 = some r) ∧ Aside0 (kq ≤ k) ∧ Aside0 (wc.heap[Z7]? = some (.cells #[.string a1_0, (.slice A1_1 l1_1.length c1_1)] 33 (0, 0))) ∧ Aside0 (Below w.heap.size w wc))
 case first =>
  have H := Z6.out
  clear Z6
  obtain ⟨Z11, Z12, H⟩ := bo H
  rcases ud H with ⟨rfl, Z13⟩ | ⟨rfl, Z13⟩ <;> have H := Z13
  ·obtain ⟨Z14, Z15, H⟩ := bo H
   have H' := ra H; clear H
   go_wp2_with (first | ((with_reducible refine gc 60 rfl ?_); refine gy (some 11) Tryz.func60 (impl_ProbeSkyOk.calls _ _ _ _ _ _ (sc Z2) Z3.out Z12.out) ?_; rintro Z16 hb; replace Z9 := bb (bk Z9) hb; replace HB := bs hb; clear hb; obtain ⟨Z17, Z18, Z19, Z20⟩ := zc2 Z9) | (go_at_call 61; (with_reducible refine (impl_ProbeTubeOk.calls _ _ _ _ _ _ _ ?side1 ?side2 Z15.out).mono ?_); (case side1 => exact sc Z4); (case side2 => exact Z5.out); rintro e Z21 ⟨rfl, hb⟩; replace Z9 := bb (bk Z9) hb; replace HB := bs hb; clear hb))
   go_meet
   case rel => exact ⟨_, _, rs, H', ⟨by first | omega | exact Nat.le_refl _⟩, ⟨bk Z9⟩, ⟨bq⟩⟩
  ·have H' := ra H; clear H
   go_wp2_with (first | ((with_reducible refine gc 60 rfl ?_); refine gy (some 11) Tryz.func60 (impl_ProbeSkyOk.calls _ _ _ _ _ _ (sc Z2) Z3.out Z12.out) ?_; rintro Z14 hb; replace Z9 := bb (bk Z9) hb; replace HB := bs hb; clear hb))
   go_meet
   case rel => exact ⟨_, _, rs, H', ⟨by first | omega | exact Nat.le_refl _⟩, ⟨bk Z9⟩, ⟨bq⟩⟩
 case rest =>
  clear Z6
  obtain ⟨kq, Z11, rfl, HA, Z12, Z9, HB⟩ := hcut
  cases kq with
  | zero => exact absurd HA.out (by simp [impl_ProbeWith.j0])
  | succ Z13 =>
   have H := HA.out
   clear HA
   simp only [impl_ProbeWith.j0] at H
   rcases ud H with ⟨rfl, Z14⟩ | ⟨rfl, Z14⟩ <;> have H := Z14
   ·obtain rfl := Option.some.inj H
    go_wp2
    go_ret
    exact ⟨_, re, by first | exact Kd.R_nil _ _ _ _ _ | exact Kd.N_nil _ _ _ _ _ | exact Kd.V_nil _ _ _ _ _ | exact Kd.Q_nil _ _ _ _ _ | exact Kd.S_nil _ _ _ _ _, bq⟩
   ·obtain ⟨Z15, hy_⟩ : ∃ y_ : List (S70), y_ = (([] : List (S70))) := ⟨_, rfl⟩
    replace H : (impl_ProbeWith.l0 Z13 Z15 l0 (l0.length : Int) 0 a1_0 l1_1) = some r := yh
    have Z16 := ra hy_
    clear hy_
    have H' := ra H; clear H
    go_wp2_with (first | ((with_reducible refine gd 18 rfl ?_); refine Kd.R_lit k70 _ 70 ?hg (N := 18) ?hd (xs := ([] : List (S70))) (inner := []) (ok := fun _ => True) (okp := fun _ => True) ?hr ?hp (fun _ hk => hk) trivial (Below.refl _ _) (Nat.le_refl _) (by simp) ?_; (case hd => rfl); (case hg => rfl); (case hr => first | (go_simp; done) | (go_simp; rfl)); (case hp => exact (Reps.none _ _)); intro Z17 Z18 Z19 hb hg_ hnew_; clear hg_ hnew_; (first | rw [← Z16.out] at Z19 | (simp only [Int.reduceToNat] at Z19; rw [← Z16.out] at Z19)); have Z20 := ra (Kd.R_lower Z19 (below_size bq)); replace Z9 := bb (bk Z9) hb; replace HB := bs hb; clear hb Z19))
    go_loopg [5, 21] Z13 (fun kq v5 v21 w' => ∃ (x5_2 : List (S70)) (x21_2 : Int), v21 = .int .i64 x21_2 ∧ Aside0 (impl_ProbeWith.l0 kq x5_2 l0 (l0.length : Int) x21_2 a1_0 l1_1 = some r) ∧ Aside0 (kq ≤ Z13) ∧ Aside0 (Kd.R k70 70 w' w.heap.size (fun _ => True) v5 x5_2) ∧ Aside0 (w'.heap[Z7]? = some (.cells #[.string a1_0, (.slice A1_1 l1_1.length c1_1)] 33 (0, 0))) ∧ Aside0 (Below w.heap.size w w'))
    case atStart => exact ⟨_, _, rs, H', ⟨Nat.le_refl _⟩, ⟨rq Z20⟩, ⟨bk Z9⟩, ⟨bq⟩⟩
    case round =>
     clear H'
     obtain ⟨Z21, Z22, rfl, HA, Z23, Z24, Z9, HB⟩ := hrel
     cases gk with
     | zero => exact absurd HA.out (by simp [impl_ProbeWith.l0])
     | succ Z25 =>
      have H := HA.out
      clear HA
      simp only [impl_ProbeWith.l0] at H
      rcases td H with ⟨Z26, H⟩ | ⟨Z26, H⟩
      ·obtain ⟨Z27, H⟩ := tn H
       obtain ⟨Z28, H⟩ := tn H
       obtain ⟨⟨Z29, Z30, Z31, Z32, Z33, Z34⟩, Z35, H⟩ := bo H
       try dsimp only at H
       rcases ud H with ⟨rfl, Z36⟩ | ⟨rfl, Z36⟩ <;> have H := Z36
       ·rcases ed H with ⟨-, Z37, Z38, H⟩ | ⟨-, Z37, Z38, H⟩
        ·have H' := ra H; clear H
         have Z39 : 0 ≤ (Z22 : Int) := od
         have Z40 : Z22 < (l0.length : Int) := od
         obtain ⟨Z41, Z42, Z43, Z44, Z45, Z46, Z47, Z48⟩ := at_T33 Z2.out Z22 Z39 Z40
         cases Z44
         replace Z45 := hc HB Z45
         replace Z46 := hc HB Z46
         have Z49 := ra Z48
         have Z50 := ra Z47
         clear Z48 Z47
         replace Z39 := eq_true Z39
         replace Z40 := eq_true Z40
         go_wp2_with (first | ((with_reducible refine gd 7 rfl ?_); refine bf 7 #[.string (⟨#[]⟩ : ByteArray), .slice none 0 0] 33 ?_; intro Z51 Z52 hg hb HB Z53 Z54; have Z55 := bn hg (bk Z9); have Z56 := bm hg (bk Z9); replace Z24 := ra (Kd.R_below (rq Z24) hb); replace Z9 := bb (bk Z9) hb; have Z57 := Z56.out; have Z58 := Z55.out; obtain ⟨Z59, Z60, Z61, Z62⟩ := zc2 Z53; obtain ⟨Z63, Z64, Z65, Z66⟩ := zc2 Z9; clear hg hb) | ((with_reducible refine gc 37 rfl ?_); refine gy (some 28) Tryz.func37 (impl_ProbeMeet.calls _ _ _ _ _ _ _ _ _ _ _ _ _ _ _ _ (Kd.C_below Z4.out bq) Z5.out (Kd.C_below Z49.out bq) Z50.out Z35.out) ?_; rintro Z67 hb; replace Z24 := ra (Kd.R_below (Kd.R_mono (rf (Kd.R_types Z24.out Z53.out (by decide))) (fun _ h_ => h_.1)) hb); replace Z9 := bb (bk Z9) hb; replace Z53 := bb (o := .cells #[.string ((rd_T33 l0 Z22).f0), .slice Z42 ((rd_T33 l0 Z22).f1).length Z43] 33 (0, 0)) (bp Z53) hb; replace HB := bs hb; clear hb) | ((with_reducible refine gd 8 rfl ?_); refine bf 8 #[.string (⟨#[]⟩ : ByteArray), .string (⟨#[]⟩ : ByteArray), .int .i64 0, .int .i64 0, .int .i64 0] 70 ?_; intro Z68 Z69 hg hb HB Z70 Z71; have Z72 := bn hg (bk Z9); have Z73 := bm hg (bk Z9); have Z74 := bn hg (bk Z53); have Z75 := bm hg (bk Z53); replace Z24 := ra (Kd.R_below (Kd.R_elderB (rq Z24) Z68 (Nat.le_of_eq hg.symm)) hb); replace Z9 := bb (bk Z9) hb; replace Z53 := bb (bk Z53) hb; have Z76 := Z73.out; have Z77 := Z72.out; have Z78 := Z75.out; have Z79 := Z74.out; obtain ⟨Z80, Z81, Z82, Z83, Z84, Z85, Z86, Z87, Z88, Z89⟩ := zc5 Z70; obtain ⟨Z90, Z91, Z92, Z93⟩ := zc2 Z53; obtain ⟨Z94, Z95, Z96, Z97⟩ := zc2 Z9; clear hg hb))
         go_roundg Z25
         case measure => have := Z12.out; have := Z23.out; omega
         case rel => exact ⟨_, _, rs, H', ⟨by have := Z12.out; have := Z23.out; omega⟩, ⟨by (with_reducible repeat (first | apply Kd.R_alloc | apply Kd.R_drewN | apply Kd.R_drew)); exact Kd.R_mono (rf (Kd.R_mono Z24.out (fun k_ hk => (⟨hk, hk.2⟩ : _ ∧ k_ ≠ Z68)))) (fun _ hk => trivial)⟩, ⟨bk Z9⟩, ⟨bq⟩⟩
        ·by_cases Z39 : Z21.length < 2513169434916
         ·rw [if_pos Z39] at H
          have Z40 := ra Z39; clear Z39
          obtain ⟨Z41, hy_⟩ : ∃ y_ : List (S70), y_ = (Z21 ++ [(⟨Z29, Z30, Z31, Z32, Z33⟩ : S70)]) := ⟨_, rfl⟩
          replace H : (impl_ProbeWith.l0 Z25 Z41 l0 (l0.length : Int) (wrap64 (Z22 + 1)) a1_0 l1_1) = some r := yh
          have Z42 := ra hy_
          clear hy_
          have H' := ra H; clear H
          have Z43 : 0 ≤ (Z22 : Int) := od
          have Z44 : Z22 < (l0.length : Int) := od
          obtain ⟨Z45, Z46, Z47, Z48, Z49, Z50, Z51, Z52⟩ := at_T33 Z2.out Z22 Z43 Z44
          cases Z48
          replace Z49 := hc HB Z49
          replace Z50 := hc HB Z50
          have Z53 := ra Z52
          have Z54 := ra Z51
          clear Z52 Z51
          replace Z43 := eq_true Z43
          replace Z44 := eq_true Z44
          go_wp2_with (first | ((with_reducible refine gd 7 rfl ?_); refine bf 7 #[.string (⟨#[]⟩ : ByteArray), .slice none 0 0] 33 ?_; intro Z55 Z56 hg hb HB Z57 Z58; have Z59 := bn hg (bk Z9); have Z60 := bm hg (bk Z9); replace Z24 := ra (Kd.R_below (rq Z24) hb); replace Z9 := bb (bk Z9) hb; have Z61 := Z60.out; have Z62 := Z59.out; obtain ⟨Z63, Z64, Z65, Z66⟩ := zc2 Z57; obtain ⟨Z67, Z68, Z69, Z70⟩ := zc2 Z9; clear hg hb) | ((with_reducible refine gc 37 rfl ?_); refine gy (some 28) Tryz.func37 (impl_ProbeMeet.calls _ _ _ _ _ _ _ _ _ _ _ _ _ _ _ _ (Kd.C_below Z4.out bq) Z5.out (Kd.C_below Z53.out bq) Z54.out Z35.out) ?_; rintro Z71 hb; replace Z24 := ra (Kd.R_below (Kd.R_mono (rf (Kd.R_types Z24.out Z57.out (by decide))) (fun _ h_ => h_.1)) hb); replace Z9 := bb (bk Z9) hb; replace Z57 := bb (o := .cells #[.string ((rd_T33 l0 Z22).f0), .slice Z46 ((rd_T33 l0 Z22).f1).length Z47] 33 (0, 0)) (bp Z57) hb; replace HB := bs hb; clear hb) | ((with_reducible refine gd 8 rfl ?_); refine bf 8 #[.string (⟨#[]⟩ : ByteArray), .string (⟨#[]⟩ : ByteArray), .int .i64 0, .int .i64 0, .int .i64 0] 70 ?_; intro Z72 Z73 hg hb HB Z74 Z75; have Z76 := bn hg (bk Z9); have Z77 := bm hg (bk Z9); have Z78 := bn hg (bk Z57); have Z79 := bm hg (bk Z57); replace Z24 := ra (Kd.R_below (Kd.R_elderB (rq Z24) Z72 (Nat.le_of_eq hg.symm)) hb); replace Z9 := bb (bk Z9) hb; replace Z57 := bb (bk Z57) hb; have Z80 := Z77.out; have Z81 := Z76.out; have Z82 := Z79.out; have Z83 := Z78.out; obtain ⟨Z84, Z85, Z86, Z87, Z88, Z89, Z90, Z91, Z92, Z93⟩ := zc5 Z74; obtain ⟨Z94, Z95, Z96, Z97⟩ := zc2 Z57; obtain ⟨Z98, Z99, Z100, Z101⟩ := zc2 Z9; clear hg hb) | ((with_reducible refine gate_builtin (b := .append) (xs := #[.tmp 39, .tmp 41]) rfl ?_); at_builtin; refine Kd.R_append k70 (w0 := w) w.heap.size rfl (.tmp 39) (.tmp 41) 57 70 (.agg #[(.string ⟨#[]⟩), (.string ⟨#[]⟩), (.int .i64 0), (.int .i64 0), (.int .i64 0)]) 56 rfl Tryz.underlying57 info70 rfl (by decide) (by omega) u5 Z21 (⟨Z29, Z30, Z31, Z32, Z33⟩ : S70) [.string Z29, .string Z30, .int .i64 Z31, .int .i64 Z32, .int .i64 Z33] (fun k_ => k_ ≠ Z72) (fun _ => False) rfl (by first | (go_simp; done) | (go_simp; rfl)) ?aP (fun _ hk => hk.elim) ?aF ?aO ?aB ?aS ?aL ?_; (case aP => exact k70_mkM _ _ _ (⟨Z29, Z30, Z31, Z32, Z33⟩ : S70)); (case aB => exact bq); (case aF => exact (fun k_ hk => Kd.freshB (g := Z72) (o := .cells #[.string Z29, .string Z30, .int .i64 Z31, .int .i64 Z32, .int .i64 Z33] 70 (0, 0)) (bp Z74) k_ hk)); (case aO => exact (by (with_reducible repeat (first | apply Kd.R_alloc | apply Kd.R_drewN | apply Kd.R_drew)); exact Kd.R_mono (rf (Kd.R_mono Z24.out (fun k_ hk => (⟨hk, hk.2⟩ : _ ∧ k_ ≠ Z72)))) (fun _ hk => hk.1.2))); (case aS => exact (below_size bq)); (case aL => have := Z40.out; omega); intro Z102 Z103 ho hb hg hat; rw [← Z42.out] at ho; have _ := ra (blk_grown (g := Z7) (o := .cells #[.string a1_0, .slice A1_1 l1_1.length c1_1] 33 (0, 0)) (bk Z9) hg (Kd.R_ne Z24.out Z9.out (by decide))); have _ := ra (blk_grown (g := Z55) (o := .cells #[.string ((rd_T33 l0 Z22).f0), .slice Z46 ((rd_T33 l0 Z22).f1).length Z47] 33 (0, 0)) (bk Z57) hg (Kd.R_ne Z24.out Z57.out (by decide))); have _ := ra (blk_grown (g := Z72) (o := .cells #[.string Z29, .string Z30, .int .i64 Z31, .int .i64 Z32, .int .i64 Z33] 70 (0, 0)) (bp Z74) hg (Kd.R_away Z24.out (fun _ hk => hk.2))); have _ := ra (hb); have _ := ra (ho); clear Z9 Z57 Z74 HB Z24; rename_i Z9 Z57 Z74 HB Z104; clear ho hb hg hat))
          go_roundg Z25
          case measure => have := Z12.out; have := Z23.out; omega
          case rel => exact ⟨_, _, rs, H', ⟨by have := Z12.out; have := Z23.out; omega⟩, ⟨by (with_reducible repeat (first | apply Kd.R_alloc | apply Kd.R_drewN | apply Kd.R_drew)); exact Kd.R_mono Z104.out (fun _ hk => trivial)⟩, ⟨bk Z9⟩, ⟨bq⟩⟩
         ·rw [if_neg Z39] at H
          exact absurd H (by simp)
       ·have H' := ra H; clear H
        have Z37 : 0 ≤ (Z22 : Int) := od
        have Z38 : Z22 < (l0.length : Int) := od
        obtain ⟨Z39, Z40, Z41, Z42, Z43, Z44, Z45, Z46⟩ := at_T33 Z2.out Z22 Z37 Z38
        cases Z42
        replace Z43 := hc HB Z43
        replace Z44 := hc HB Z44
        have Z47 := ra Z46
        have Z48 := ra Z45
        clear Z46 Z45
        replace Z37 := eq_true Z37
        replace Z38 := eq_true Z38
        go_wp2_with (first | ((with_reducible refine gd 7 rfl ?_); refine bf 7 #[.string (⟨#[]⟩ : ByteArray), .slice none 0 0] 33 ?_; intro Z49 Z50 hg hb HB Z51 Z52; have Z53 := bn hg (bk Z9); have Z54 := bm hg (bk Z9); replace Z24 := ra (Kd.R_below (rq Z24) hb); replace Z9 := bb (bk Z9) hb; have Z55 := Z54.out; have Z56 := Z53.out; obtain ⟨Z57, Z58, Z59, Z60⟩ := zc2 Z51; obtain ⟨Z61, Z62, Z63, Z64⟩ := zc2 Z9; clear hg hb) | ((with_reducible refine gc 37 rfl ?_); refine gy (some 28) Tryz.func37 (impl_ProbeMeet.calls _ _ _ _ _ _ _ _ _ _ _ _ _ _ _ _ (Kd.C_below Z4.out bq) Z5.out (Kd.C_below Z47.out bq) Z48.out Z35.out) ?_; rintro Z65 hb; replace Z24 := ra (Kd.R_below (Kd.R_mono (rf (Kd.R_types Z24.out Z51.out (by decide))) (fun _ h_ => h_.1)) hb); replace Z9 := bb (bk Z9) hb; replace Z51 := bb (o := .cells #[.string ((rd_T33 l0 Z22).f0), .slice Z40 ((rd_T33 l0 Z22).f1).length Z41] 33 (0, 0)) (bp Z51) hb; replace HB := bs hb; clear hb) | ((with_reducible refine gd 8 rfl ?_); refine bf 8 #[.string (⟨#[]⟩ : ByteArray), .string (⟨#[]⟩ : ByteArray), .int .i64 0, .int .i64 0, .int .i64 0] 70 ?_; intro Z66 Z67 hg hb HB Z68 Z69; have Z70 := bn hg (bk Z9); have Z71 := bm hg (bk Z9); have Z72 := bn hg (bk Z51); have Z73 := bm hg (bk Z51); replace Z24 := ra (Kd.R_below (Kd.R_elderB (rq Z24) Z66 (Nat.le_of_eq hg.symm)) hb); replace Z9 := bb (bk Z9) hb; replace Z51 := bb (bk Z51) hb; have Z74 := Z71.out; have Z75 := Z70.out; have Z76 := Z73.out; have Z77 := Z72.out; obtain ⟨Z78, Z79, Z80, Z81, Z82, Z83, Z84, Z85, Z86, Z87⟩ := zc5 Z68; clear hg hb))
        go_roundg Z25
        case measure => have := Z12.out; have := Z23.out; omega
        case rel => exact ⟨_, _, rs, H', ⟨by have := Z12.out; have := Z23.out; omega⟩, ⟨by (with_reducible repeat (first | apply Kd.R_alloc | apply Kd.R_drewN | apply Kd.R_drew)); exact Kd.R_mono (rf (Kd.R_mono Z24.out (fun k_ hk => (⟨hk, hk.2⟩ : _ ∧ k_ ≠ Z66)))) (fun _ hk => trivial)⟩, ⟨bk Z9⟩, ⟨bq⟩⟩
      ·obtain rfl := Option.some.inj H
       go_wp2
       go_ret
       exact ⟨_, re, rq Z24, bq⟩
theorem impl_ProbeFree.calls (k : Nat) (A0 : Option Addr) (c0 : Nat) (l0 : List (S33)) (a1_0 : ByteArray) (A1_1 : Option Addr) (c1_1 : Nat) (l1_1 : List (S46)) (r : Bool) (w : World) (hr0 : Kd.C k33 w A0 l0.length l0) (hc0 : l0.length ≤ c0) (hr1_1 : Kd.C k46 w A1_1 l1_1.length l1_1) (hc1_1 : l1_1.length ≤ c1_1) (h : impl_ProbeFree.f k l0 a1_0 l1_1 = some r) :
  Calls Tryz.prog 35 #[.slice A0 l0.length c0, .agg #[.string a1_0, .slice A1_1 l1_1.length c1_1]] w fun e w' => e = .returned (.bool r) ∧ Below w.heap.size w w' := by
 have Z0 := Tryz.underlying33
 have Z1 := ra hr0
 have Z2 := ra hc0
 clear hr0 hc0
 have Z3 := ra hr1_1
 have Z4 := ra hc1_1
 clear hr1_1 hc1_1
 have HB := ra (Below.refl w.heap.size w)
 have H := h; unfold impl_ProbeFree.f at H
 clear h
 obtain ⟨Z5, Z6, H⟩ := bo H
 rcases ud H with ⟨rfl, Z7⟩ | ⟨rfl, Z7⟩ <;> have H := Z7
 ·obtain ⟨Z8, Z9, H⟩ := bo H
  rcases ud H with ⟨rfl, Z10⟩ | ⟨rfl, Z10⟩ <;> have H := Z10
  ·obtain ⟨Z11, Z12, H⟩ := bo H
   obtain rfl := Option.some.inj H
   go_enter Tryz.func35, Tryz.ntmps35
   go_wp2_with (first | ((with_reducible refine gd 3 rfl ?_); (try (refine gate_guard (by rfl) ?_; dsimp only)); refine bd 3 #[.string a1_0, .slice A1_1 l1_1.length c1_1] 33 ?_; intro Z13 Z14 HB Z15 Z16) | ((with_reducible refine gc 60 rfl ?_); refine gy (some 6) Tryz.func60 (impl_ProbeSkyOk.calls _ _ _ _ _ _ (sc Z1) Z2.out Z6.out) ?_; rintro Z17 hb; replace Z15 := bb (bk Z15) hb; replace HB := bs hb; clear hb; obtain ⟨Z18, Z19, Z20, Z21⟩ := zc2 Z15) | (go_at_call 61; (with_reducible refine (impl_ProbeTubeOk.calls _ _ _ _ _ _ _ ?side1 ?side2 Z9.out).mono ?_); (case side1 => exact sc Z3); (case side2 => exact Z4.out); rintro e Z22 ⟨rfl, hb⟩; replace Z15 := bb (bk Z15) hb; replace HB := bs hb; clear hb; obtain ⟨Z23, Z24, Z25, Z26⟩ := zc2 Z15) | (go_at_call 34; (with_reducible refine (impl_ProbeWith.calls _ _ _ _ _ _ _ _ _ _ ?side1 ?side2 ?side3 ?side4 Z12.out).mono ?_); (case side1 => exact sc Z1); (case side2 => exact Z2.out); (case side3 => exact sc Z3); (case side4 => exact Z4.out); rintro e Z27 ⟨Z28, rfl, Z29, hb⟩; have Z30 := ra (Kd.R_lower Z29 (below_size bq)); replace Z15 := bb (bk Z15) hb; replace HB := bs hb; clear hb Z29; obtain ⟨Z31, Z32, Z33⟩ := Kd.R_slice Z30.out; subst Z33))
   go_ret
   exact ⟨re, bq⟩
  ·obtain rfl := Option.some.inj H
   go_enter Tryz.func35, Tryz.ntmps35
   go_wp2_with (first | ((with_reducible refine gd 3 rfl ?_); (try (refine gate_guard (by rfl) ?_; dsimp only)); refine bd 3 #[.string a1_0, .slice A1_1 l1_1.length c1_1] 33 ?_; intro Z11 Z12 HB Z13 Z14) | ((with_reducible refine gc 60 rfl ?_); refine gy (some 6) Tryz.func60 (impl_ProbeSkyOk.calls _ _ _ _ _ _ (sc Z1) Z2.out Z6.out) ?_; rintro Z15 hb; replace Z13 := bb (bk Z13) hb; replace HB := bs hb; clear hb; obtain ⟨Z16, Z17, Z18, Z19⟩ := zc2 Z13) | (go_at_call 61; (with_reducible refine (impl_ProbeTubeOk.calls _ _ _ _ _ _ _ ?side1 ?side2 Z9.out).mono ?_); (case side1 => exact sc Z3); (case side2 => exact Z4.out); rintro e Z20 ⟨rfl, hb⟩; replace Z13 := bb (bk Z13) hb; replace HB := bs hb; clear hb))
   go_ret
   exact ⟨re, bq⟩
 ·obtain rfl := Option.some.inj H
  go_enter Tryz.func35, Tryz.ntmps35
  go_wp2_with (first | ((with_reducible refine gd 3 rfl ?_); (try (refine gate_guard (by rfl) ?_; dsimp only)); refine bd 3 #[.string a1_0, .slice A1_1 l1_1.length c1_1] 33 ?_; intro Z8 Z9 HB Z10 Z11) | ((with_reducible refine gc 60 rfl ?_); refine gy (some 6) Tryz.func60 (impl_ProbeSkyOk.calls _ _ _ _ _ _ (sc Z1) Z2.out Z6.out) ?_; rintro Z12 hb; replace Z10 := bb (bk Z10) hb; replace HB := bs hb; clear hb))
  go_ret
  exact ⟨re, bq⟩
end Go.Proofs.YtjelgpmhbaiipaaGreatDoor.PA
end
