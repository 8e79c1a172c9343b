/- Contracts (began as prints of the kit's tool; shortened). No condition beside what the Lean functions say. -/
import Derived.Test.YtjelgpmhbaiipaaGreatDoorFPAd9
import Derived.Test.YtjelgpmhbaiipaaGreatDoorFZCx1
import Derived.Test.YtjelgpmhbaiipaaGreatDoorFZCv2
import Derived.Test.YtjelgpmhbaiipaaGreatDoorFG11
import Derived.Test.YtjelgpmhbaiipaaGreatDoorFZCy10
section
namespace Go.Proofs.YtjelgpmhbaiipaaGreatDoor.PA
open Go.RowKit Go.Proofs.YtjelgpmhbaiipaaGreatDoorW.PrintWords Go.Proofs.YtjelgpmhbaiipaaGreatDoorW.PrintLast Go.Proofs.YtjelgpmhbaiipaaGreatDoorW.PrintMore Go.Proofs.YtjelgpmhbaiipaaGreatDoor.Z
attribute [local go_sem] max2_int min2_int max_two min_two max_three min_three max_four min_four
set_option linter.unusedVariables false
set_option maxHeartbeats 8000000
set_option maxRecDepth 100000
set_option linter.unusedSimpArgs false
theorem spec_l1Close.calls (k : Nat) (a0_0 a0_1 a0_2 a0_3 a0_4 a0_5 a1_0 a1_1 a1_2 a1_3 a1_4 a1_5 r1 : Int) (r2 : Bool) (w : World) (h : spec_l1Close.f k a0_0 a0_1 a0_2 a0_3 a0_4 a0_5 a1_0 a1_1 a1_2 a1_3 a1_4 a1_5 = some (r1, r2)) :
  Calls Tryz.prog 70 #[.agg #[.int .i64 a0_0, .int .i64 a0_1, .int .i64 a0_2, .int .i64 a0_3, .int .i64 a0_4, .int .i64 a0_5], .agg #[.int .i64 a1_0, .int .i64 a1_1, .int .i64 a1_2, .int .i64 a1_3, .int .i64 a1_4, .int .i64 a1_5]] w fun e w' => e = .returned (.tuple #[.int .i64 r1, .bool r2]) ∧ Below w.heap.size w w' := by
 have Z0 := Tryz.underlying46
 have HB := ra (Below.refl w.heap.size w)
 have H := h; unfold spec_l1Close.f at H
 clear h
 have Z1 := ra H; clear H
 go_enter Tryz.func70, Tryz.ntmps70
 go_upto_region 1 with (first | ((with_reducible refine gd 2 rfl ?_); refine bd 2 #[.int .i64 a0_0, .int .i64 a0_1, .int .i64 a0_2, .int .i64 a0_3, .int .i64 a0_4, .int .i64 a0_5] 46 ?_; intro Z2 Z3 HB Z4 Z5) | ((with_reducible refine gd 3 rfl ?_); refine bf 3 #[.int .i64 a1_0, .int .i64 a1_1, .int .i64 a1_2, .int .i64 a1_3, .int .i64 a1_4, .int .i64 a1_5] 46 ?_; intro Z6 Z7 hg hb HB Z8 Z9; have Z10 := bn hg (bk Z4); have Z11 := bm hg (bk Z4); replace Z4 := bb (bk Z4) hb; clear hg hb))
 (try simp only [Act.put, List.setIfInBounds_toArray, List.set_cons_zero, List.set_cons_succ])
 go_cut [49] (fun v49 wc => ∃ (kq : Nat) (x49_2 : Bool), v49 = .bool x49_2 ∧ Aside0 (spec_l1Close.j0 kq x49_2 a0_0 a0_1 a0_2 a0_3 a0_4 a0_5 a1_0 a1_1 a1_2 a1_3 a1_4 a1_5 = some (r1, r2)) ∧ Aside0 (kq ≤ k) ∧ Aside0 (wc.heap[Z2]? = some (.cells #[.int .i64 a0_0, .int .i64 a0_1, .int .i64 a0_2, .int .i64 a0_3, .int .i64 a0_4, .int .i64 a0_5] 46 (0, 0))) ∧ Aside0 (wc.heap[Z6]? = some (.cells #[.int .i64 a1_0, .int .i64 a1_1, .int .i64 a1_2, .int .i64 a1_3, .int .i64 a1_4, .int .i64 a1_5] 46 (0, 0))) ∧ Aside0 (Below w.heap.size w wc))
 case first =>
  have H := Z1.out
  clear Z1
  obtain ⟨Z12, Z13, H⟩ := bo H
  rcases ud H with ⟨rfl, Z14⟩ | ⟨rfl, Z14⟩ <;> have H := Z14
  obtain ⟨Z15, Z16, H⟩ := bo H
  rcases ud H with ⟨rfl, Z17⟩ | ⟨rfl, Z17⟩ <;> have H := Z17
  rcases td H with ⟨Z18, H⟩ | ⟨Z18, H⟩
  (first | rw [Z18] | (simp only [i64_w, i32_w]; rw [Z18]) | skip)
  rotate_left
  (first | rw [Z18] | (simp only [i64_w, i32_w]; rw [Z18]) | skip)
  rcases td H with ⟨Z19, H⟩ | ⟨Z19, H⟩
  rotate_left
  rcases td H with ⟨Z20, H⟩ | ⟨Z20, H⟩
  rotate_left
  rotate_left
  rotate_left
  ·have H' := ra H; clear H
   have Z15 := Z10.out
   have Z16 := Z11.out
   obtain ⟨Z17, Z18, Z19, Z20, Z21, Z22, Z23, Z24, Z25, Z26, Z27, Z28⟩ := zc6 Z4
   obtain ⟨Z29, Z30, Z31, Z32, Z33, Z34, Z35, Z36, Z37, Z38, Z39, Z40⟩ := zc6 Z8
   go_wp2_with (first | ((with_reducible refine gc 66 rfl ?_); refine gy (some 11) Tryz.func66 (spec_l1In.calls _ _ _ _ _ Z13.out) ?_; rintro w' ⟨nd, rfl⟩))
   go_meet
   case rel => exact ⟨_, _, rs, H', ⟨by first | omega | exact Nat.le_refl _⟩, ⟨bk Z4⟩, ⟨bk Z8⟩, ⟨bq⟩⟩
  all_goals
   have H' := ra H; clear H
   have Z19 := Z10.out
   have Z20 := Z11.out
   obtain ⟨Z21, Z22, Z23, Z24, Z25, Z26, Z27, Z28, Z29, Z30, Z31, Z32⟩ := zc6 Z4
   obtain ⟨Z33, Z34, Z35, Z36, Z37, Z38, Z39, Z40, Z41, Z42, Z43, Z44⟩ := zc6 Z8
   go_wp2_with (first | ((with_reducible refine gc 66 rfl ?_); refine gy (some 11) Tryz.func66 (spec_l1In.calls _ _ _ _ _ Z13.out) ?_; rintro w' ⟨nd, rfl⟩) | (go_at_call 66; (with_reducible refine (spec_l1In.calls _ _ _ _ _ Z16.out).mono ?_); rintro e w' ⟨rfl, ⟨nd, rfl⟩⟩))
   go_meet
   case rel => exact ⟨_, _, rs, H', ⟨by first | omega | exact Nat.le_refl _⟩, ⟨bk Z4⟩, ⟨bk Z8⟩, ⟨bq⟩⟩
 case rest =>
  clear Z1
  obtain ⟨kq, Z12, rfl, HA, Z13, Z4, Z8, HB⟩ := hcut
  cases kq with
  | zero => exact absurd HA.out (by simp [spec_l1Close.j0])
  | succ Z14 =>
   have H := HA.out
   clear HA
   simp only [spec_l1Close.j0] at H
   rcases ud H with ⟨rfl, Z15⟩ | ⟨rfl, Z15⟩ <;> have H := Z15
   ·simp only [Option.some.injEq, Prod.mk.injEq] at H
    obtain ⟨rfl, rfl⟩ := H
    go_wp2
    go_ret2
    exact ⟨re, bq⟩
   rcases td H with ⟨Z16, H⟩ | ⟨Z16, H⟩
   rotate_left
   rotate_left
   all_goals
    simp only [Option.some.injEq, Prod.mk.injEq] at H
    obtain ⟨rfl, rfl⟩ := H
    have Z17 := Z10.out
    have Z18 := Z11.out
    obtain ⟨Z19, Z20, Z21, Z22, Z23, Z24, Z25, Z26, Z27, Z28, Z29, Z30⟩ := zc6 Z4
    obtain ⟨Z31, Z32, Z33, Z34, Z35, Z36, Z37, Z38, Z39, Z40, Z41, Z42⟩ := zc6 Z8
    go_wp2
    go_ret2
    exact ⟨re, bq⟩
def spec_l3Meet.T9 : Bool × List (List Nat × List Nat) := (true, [([], []), ([0], [0]), ([], []), ([1, 2], [1, 2]), ([3], [3]), ([], []), ([5], [5]), ([], []), ([6, 7], [6, 7]), ([8], [8]), ([4, 9], [4, 9]), ([10], [10]), ([11], [11]), ([11], [11]), ([12, 10, 0, 1, 2, 3, 4, 5, 6, 7, 8, 9, 10, 11, 12], [12]), ([13, 14, 0, 1, 2, 3, 4, 5, 6, 7, 8, 9, 10, 11, 12, 13, 14], [13])])
def spec_l3Meet.B9 : List Nat := [0, 1, 0, 7, 15, 0, 32, 0, 224, 480, 1023, 2047, 4095, 4095, 8191, 32767]
theorem spec_l3Meet.tab9 : rtab .any (opsOf Tryz.f49 9) = spec_l3Meet.T9 := by kernel_rfl
theorem spec_l3Meet.bits9 : waitsOk spec_l3Meet.T9.2 spec_l3Meet.B9 = true := by kernel_rfl
theorem spec_l3Meet.calls (k : Nat) (a0_0 : ByteArray) (A0_1 : Option Addr) (c0_1 : Nat) (l0_1 : List (S46)) (a1_0 : ByteArray) (A1_1 : Option Addr) (c1_1 : Nat) (l1_1 : List (S46)) (r1 r2 : ByteArray) (r3 r4 r5 : Int) (r6 : Bool) (w : World) (hr0_1 : Kd.C k46 w A0_1 l0_1.length l0_1) (hc0_1 : l0_1.length ≤ c0_1) (hr1_1 : Kd.C k46 w A1_1 l1_1.length l1_1) (hc1_1 : l1_1.length ≤ c1_1) (h : spec_l3Meet.f k a0_0 l0_1 a1_0 l1_1 = some (r1, r2, r3, r4, r5, r6)) :
  Calls Tryz.prog 49 #[.agg #[.string a0_0, .slice A0_1 l0_1.length c0_1], .agg #[.string a1_0, .slice A1_1 l1_1.length c1_1]] w fun e w' => e = .returned (.tuple #[.agg #[.string r1, .string r2, .int .i64 r3, .int .i64 r4, .int .i64 r5], .bool r6]) ∧ Below w.heap.size w w' := by
 have Z0 := Tryz.underlying33
 have Z1 := Tryz.underlying70
 have Z2 := Tryz.underlying46
 have Z3 := ra hr0_1
 have Z4 := ra hc0_1
 clear hr0_1 hc0_1
 have Z5 := ra hr1_1
 have Z6 := ra hc1_1
 clear hr1_1 hc1_1
 have HB := ra (Below.refl w.heap.size w)
 have H := h; unfold spec_l3Meet.f at H
 clear h
 have H' := ra H; clear H
 go_enter Tryz.func49, Tryz.ntmps49
 go_wp2_with (first | ((with_reducible refine gd 2 rfl ?_); refine bd 2 #[.string a0_0, .slice A0_1 l0_1.length c0_1] 33 ?_; intro Z7 Z8 HB Z9 Z10) | ((with_reducible refine gd 3 rfl ?_); refine bf 3 #[.string a1_0, .slice A1_1 l1_1.length c1_1] 33 ?_; intro Z11 Z12 hg hb HB Z13 Z14; have Z15 := bn hg (bk Z9); have Z16 := bm hg (bk Z9); replace Z9 := bb (bk Z9) hb; clear hg hb) | ((with_reducible refine gd 4 rfl ?_); refine bf 4 #[.string (⟨#[]⟩ : ByteArray), .string (⟨#[]⟩ : ByteArray), .int .i64 0, .int .i64 0, .int .i64 0] 70 ?_; intro Z17 Z18 hg hb HB Z19 Z20; have Z21 := bn hg (bk Z9); have Z22 := bm hg (bk Z9); have Z23 := bn hg (bk Z13); have Z24 := bm hg (bk Z13); replace Z9 := bb (bk Z9) hb; replace Z13 := bb (bk Z13) hb; clear hg hb) | ((with_reducible refine gd 6 rfl ?_); refine bf 6 #[.string (⟨#[]⟩ : ByteArray), .string (⟨#[]⟩ : ByteArray), .int .i64 0, .int .i64 0, .int .i64 0] 70 ?_; intro Z25 Z26 hg hb HB Z27 Z28; have Z29 := bn hg (bk Z9); have Z30 := bm hg (bk Z9); have Z31 := bn hg (bk Z13); have Z32 := bm hg (bk Z13); have Z33 := bn hg (bk Z19); have Z34 := bm hg (bk Z19); replace Z9 := bb (bk Z9) hb; replace Z13 := bb (bk Z13) hb; replace Z19 := bb (bk Z19) hb; have Z35 := Z30.out; have Z36 := Z29.out; have Z37 := Z32.out; have Z38 := Z31.out; have Z39 := Z34.out; have Z40 := Z33.out; obtain ⟨Z41, Z42, Z43, Z44, Z45, Z46, Z47, Z48, Z49, Z50⟩ := zc5 Z27; clear hg hb))
 go_loopg [7, 8] k (fun kq v7 v8 w' => ∃ (x7_1 : Bool) (x8_1 : Int) (x232000_1 : ByteArray) (x232001_1 : ByteArray) (x232002_1 : Int) (x232003_1 : Int) (x232004_1 : Int), v7 = .bool x7_1 ∧ v8 = .int .i64 x8_1 ∧ Aside0 (spec_l3Meet.l0 kq x7_1 x8_1 a0_0 l0_1 a1_0 l1_1 x232000_1 x232001_1 x232002_1 x232003_1 x232004_1 = some (r1, r2, r3, r4, r5, r6)) ∧ Aside0 (kq ≤ k) ∧ Aside0 (w'.heap[Z7]? = some (.cells #[.string a0_0, (.slice A0_1 l0_1.length c0_1)] 33 (0, 0))) ∧ Aside0 (w'.heap[Z11]? = some (.cells #[.string a1_0, (.slice A1_1 l1_1.length c1_1)] 33 (0, 0))) ∧ Aside0 (w'.heap[Z17]? = some (.cells #[.string (⟨#[]⟩ : ByteArray), .string (⟨#[]⟩ : ByteArray), .int .i64 0, .int .i64 0, .int .i64 0] 70 (0, 0))) ∧ Aside0 (w'.heap[Z25]? = some (.cells #[.string x232000_1, .string x232001_1, .int .i64 x232002_1, .int .i64 x232003_1, .int .i64 x232004_1] 70 (0, 0))) ∧ Aside0 (Below w.heap.size w w'))
 case atStart => exact ⟨(false), (0), ((⟨#[]⟩ : ByteArray)), ((⟨#[]⟩ : ByteArray)), (0), (0), (0), rs, rs, H', ⟨Nat.le_refl _⟩, ⟨bk Z9⟩, ⟨bk Z13⟩, ⟨bk Z19⟩, ⟨bp Z27⟩, ⟨bq⟩⟩
 case round =>
  clear H'
  try clear Z41
  try clear Z42
  try clear Z43
  try clear Z44
  try clear Z45
  try clear Z46
  try clear Z47
  try clear Z48
  try clear Z49
  try clear Z50
  obtain ⟨Z51, Z52, Z53, Z54, Z55, Z56, Z57, rfl, rfl, HA, Z58, Z9, Z13, Z19, Z27, HB⟩ := hrel
  cases gk with
  | zero => exact absurd HA.out (by simp [spec_l3Meet.l0])
  | succ Z59 =>
   have H := HA.out
   clear HA
   simp only [spec_l3Meet.l0] at H
   rcases td H with ⟨Z60, H⟩ | ⟨Z60, H⟩
   ·have H' := ra H; clear H
    have Z61 := Z15.out
    have Z62 := Z16.out
    have Z63 := Z21.out
    have Z64 := Z22.out
    have Z65 := Z29.out
    have Z66 := Z30.out
    obtain ⟨Z67, Z68, Z69, Z70⟩ := zc2 Z9
    go_wp2
    go_loopg [7, 9] Z59 (fun kq v7 v9 w' => ∃ (x7_2 : Bool) (x9_2 : Int) (x232000_2 : ByteArray) (x232001_2 : ByteArray) (x232002_2 : Int) (x232003_2 : Int) (x232004_2 : Int), v7 = .bool x7_2 ∧ v9 = .int .i64 x9_2 ∧ Aside0 (spec_l3Meet.l1 kq x7_2 Z52 x9_2 a0_0 l0_1 a1_0 l1_1 x232000_2 x232001_2 x232002_2 x232003_2 x232004_2 = some (r1, r2, r3, r4, r5, r6)) ∧ Aside0 (kq ≤ Z59) ∧ Aside0 (w'.heap[Z7]? = some (.cells #[.string a0_0, (.slice A0_1 l0_1.length c0_1)] 33 (0, 0))) ∧ Aside0 (w'.heap[Z11]? = some (.cells #[.string a1_0, (.slice A1_1 l1_1.length c1_1)] 33 (0, 0))) ∧ Aside0 (w'.heap[Z17]? = some (.cells #[.string (⟨#[]⟩ : ByteArray), .string (⟨#[]⟩ : ByteArray), .int .i64 0, .int .i64 0, .int .i64 0] 70 (0, 0))) ∧ Aside0 (w'.heap[Z25]? = some (.cells #[.string x232000_2, .string x232001_2, .int .i64 x232002_2, .int .i64 x232003_2, .int .i64 x232004_2] 70 (0, 0))) ∧ Aside0 (Below w.heap.size w w'))
    case atStart => exact ⟨(Z51), (0), (Z53), (Z54), (Z55), (Z56), (Z57), rs, rs, H', ⟨Nat.le_refl _⟩, ⟨bk Z9⟩, ⟨bk Z13⟩, ⟨bk Z19⟩, ⟨bk Z27⟩, ⟨bq⟩⟩
    case round =>
     clear H'
     try clear Z60
     try clear Z41
     try clear Z42
     try clear Z43
     try clear Z44
     try clear Z45
     try clear Z67
     try clear Z68
     try clear Z46
     try clear Z47
     try clear Z48
     try clear Z49
     try clear Z50
     try clear Z69
     try clear Z70
     obtain ⟨Z71, Z72, Z73, Z74, Z75, Z76, Z77, rfl, rfl, HA, Z78, Z9, Z13, Z19, Z27, HB⟩ := hrel
     cases gk with
     | zero => exact absurd HA.out (by simp [spec_l3Meet.l1])
     | succ Z79 =>
      have H := HA.out
      clear HA
      simp only [spec_l3Meet.l1] at H
      rcases td H with ⟨Z80, H⟩ | ⟨Z80, H⟩
      ·obtain ⟨Z81, H⟩ := tn H
       obtain ⟨Z82, H⟩ := tn H
       obtain ⟨Z83, H⟩ := tn H
       obtain ⟨⟨Z84, Z85⟩, Z86, H⟩ := bo H
       try dsimp only at H
       rcases ud H with ⟨rfl, Z87⟩ | ⟨rfl, Z87⟩ <;> have H := Z87
       ·rcases ud H with ⟨rfl, Z88⟩ | ⟨rfl, Z88⟩ <;> have H := Z88
        ·rcases td H with ⟨Z89, H⟩ | ⟨Z89, H⟩
         ·have H' := ra H; clear H
          have Z90 := Z16.out
          have Z91 := Z15.out
          have Z92 := Z23.out
          have Z93 := Z24.out
          have Z94 := Z31.out
          have Z95 := Z32.out
          obtain ⟨Z96, Z97, Z98, Z99⟩ := zc2 Z13
          try go_wp2
          have _ := ra (blk_drew Z9.out)
          have _ := ra (blk_drew Z13.out)
          have _ := ra (blk_drew Z19.out)
          have _ := ra (blk_drew Z27.out)
          have _ := ra (below_drew1 HB.out)
          clear Z9 Z13 Z19 Z27 HB
          rename_i Z9 Z13 Z19 Z27 HB
          have Z100 : 0 ≤ (Z52 : Int) := od
          have Z101 : Z52 < (l0_1.length : Int) := od
          obtain ⟨Z102, Z103, Z104, Z105, Z106, Z107, Z108, Z109⟩ := at_T46 Z3.out Z52 Z100 Z101
          have Z110 := Z109
          have Z111 := Z108
          have Z112 := Z107
          have Z113 := Z106
          have Z114 := Z105
          have Z115 := Z104
          cases Z103
          replace Z104 := hc HB Z104
          replace Z105 := hc HB Z105
          replace Z106 := hc HB Z106
          replace Z107 := hc HB Z107
          replace Z108 := hc HB Z108
          replace Z109 := hc HB Z109
          replace Z100 := eq_true Z100
          replace Z101 := eq_true Z101
          have Z116 : 0 ≤ (Z72 : Int) := od
          have Z117 : Z72 < (l1_1.length : Int) := od
          obtain ⟨Z118, Z119, Z120, Z121, Z122, Z123, Z124, Z125⟩ := at_T46 Z5.out Z72 Z116 Z117
          have Z126 := Z125
          have Z127 := Z124
          have Z128 := Z123
          have Z129 := Z122
          have Z130 := Z121
          have Z131 := Z120
          cases Z119
          replace Z120 := hc HB Z120
          replace Z121 := hc HB Z121
          replace Z122 := hc HB Z122
          replace Z123 := hc HB Z123
          replace Z124 := hc HB Z124
          replace Z125 := hc HB Z125
          replace Z116 := eq_true Z116
          replace Z117 := eq_true Z117
          refine start_ (n := 16) (S := fun w' => w'.cell? ⟨Z7, 0, none⟩ = some (.string a0_0) ∧ w'.cell? ⟨Z7, 1, none⟩ = some (.slice (some Z102) l0_1.length c0_1) ∧ w'.cell? ⟨Z11, 0, none⟩ = some (.string a1_0) ∧ w'.cell? ⟨Z11, 1, none⟩ = some (.slice (some Z118) l1_1.length c1_1) ∧ w'.cell? (Z102.add ((Z52).toNat * 6)) = some (.int .i64 ((rd_T46 l0_1 Z52).f0)) ∧ w'.cell? ⟨(Z102.add ((Z52).toNat * 6)).block, (Z102.add ((Z52).toNat * 6)).off + 1, none⟩ = some (.int .i64 ((rd_T46 l0_1 Z52).f1)) ∧ w'.cell? ⟨(Z102.add ((Z52).toNat * 6)).block, (Z102.add ((Z52).toNat * 6)).off + 2, none⟩ = some (.int .i64 ((rd_T46 l0_1 Z52).f2)) ∧ w'.cell? ⟨(Z102.add ((Z52).toNat * 6)).block, (Z102.add ((Z52).toNat * 6)).off + 3, none⟩ = some (.int .i64 ((rd_T46 l0_1 Z52).f3)) ∧ w'.cell? ⟨(Z102.add ((Z52).toNat * 6)).block, (Z102.add ((Z52).toNat * 6)).off + 4, none⟩ = some (.int .i64 ((rd_T46 l0_1 Z52).f4)) ∧ w'.cell? ⟨(Z102.add ((Z52).toNat * 6)).block, (Z102.add ((Z52).toNat * 6)).off + 5, none⟩ = some (.int .i64 ((rd_T46 l0_1 Z52).f5)) ∧ w'.cell? (Z118.add ((Z72).toNat * 6)) = some (.int .i64 ((rd_T46 l1_1 Z72).f0)) ∧ w'.cell? ⟨(Z118.add ((Z72).toNat * 6)).block, (Z118.add ((Z72).toNat * 6)).off + 1, none⟩ = some (.int .i64 ((rd_T46 l1_1 Z72).f1)) ∧ w'.cell? ⟨(Z118.add ((Z72).toNat * 6)).block, (Z118.add ((Z72).toNat * 6)).off + 2, none⟩ = some (.int .i64 ((rd_T46 l1_1 Z72).f2)) ∧ w'.cell? ⟨(Z118.add ((Z72).toNat * 6)).block, (Z118.add ((Z72).toNat * 6)).off + 3, none⟩ = some (.int .i64 ((rd_T46 l1_1 Z72).f3)) ∧ w'.cell? ⟨(Z118.add ((Z72).toNat * 6)).block, (Z118.add ((Z72).toNat * 6)).off + 4, none⟩ = some (.int .i64 ((rd_T46 l1_1 Z72).f4)) ∧ w'.cell? ⟨(Z118.add ((Z72).toNat * 6)).block, (Z118.add ((Z72).toNat * 6)).off + 5, none⟩ = some (.int .i64 ((rd_T46 l1_1 Z72).f5))) (ds := []) (bl 16 0) (by kernel_rfl) rfl rfl ⟨(blk_cell Z9.out 0).trans rfl, (blk_cell Z9.out 1).trans rfl, (blk_cell Z13.out 0).trans rfl, (blk_cell Z13.out 1).trans rfl, (hc HB Z115), (hc HB Z114), (hc HB Z113), (hc HB Z112), (hc HB Z111), (hc HB Z110), (hc HB Z131), (hc HB Z130), (hc HB Z129), (hc HB Z128), (hc HB Z127), (hc HB Z126)⟩ (fun hHeld => ?_); refine with_tabW spec_l3Meet.tab9 spec_l3Meet.bits9 (fun HT_ HW_ => ?_)
          generalize wr.drew = Z132 at Z9 Z13 Z19 Z27 HB Z104 Z105 Z106 Z107 Z108 Z109 Z120 Z121 Z122 Z123 Z124 Z125 hHeld ⊢
          refine pu 0 28 (bl 16 1) ?_
          refine pu 2 30 (bl 16 5) ?_
          refine pu 5 33 (bl 16 37) ?_
          refine pu 7 35 (bl 16 165) ?_
          refine tk 1 29 (bl 16 167) ?_ hHeld
          refine pu 3 31 (bl 16 175) ?_
          refine tk 4 32 (bl 16 191) ?_ hHeld
          refine tk 6 34 (bl 16 255) ?_ hHeld
          refine pu 8 36 (bl 16 511) ?_
          refine tk 9 37 (bl 16 1023) ?_ hHeld
          refine oe 10 38 (bl 16 2047) (fun K hK => ?_)
          refine gs Tryz.func70 #[.agg #[.int .i64 ((rd_T46 l0_1 Z52).f0), .int .i64 ((rd_T46 l0_1 Z52).f1), .int .i64 ((rd_T46 l0_1 Z52).f2), .int .i64 ((rd_T46 l0_1 Z52).f3), .int .i64 ((rd_T46 l0_1 Z52).f4), .int .i64 ((rd_T46 l0_1 Z52).f5)], .agg #[.int .i64 ((rd_T46 l1_1 Z72).f0), .int .i64 ((rd_T46 l1_1 Z72).f1), .int .i64 ((rd_T46 l1_1 Z72).f2), .int .i64 ((rd_T46 l1_1 Z72).f3), .int .i64 ((rd_T46 l1_1 Z72).f4), .int .i64 ((rd_T46 l1_1 Z72).f5)]] ?_
          with_reducible refine (spec_l1Close.calls Z79 ((rd_T46 l0_1 Z52).f0) ((rd_T46 l0_1 Z52).f1) ((rd_T46 l0_1 Z52).f2) ((rd_T46 l0_1 Z52).f3) ((rd_T46 l0_1 Z52).f4) ((rd_T46 l0_1 Z52).f5) ((rd_T46 l1_1 Z72).f0) ((rd_T46 l1_1 Z72).f1) ((rd_T46 l1_1 Z72).f2) ((rd_T46 l1_1 Z72).f3) ((rd_T46 l1_1 Z72).f4) ((rd_T46 l1_1 Z72).f5) Z84 true _ Z86.out).mono ?_
          rintro e Z133 ⟨rfl, hb⟩
          refine ⟨_, rfl, ?_⟩
          have _ := bb (bk Z9) hb
          have _ := bb (bk Z13) hb
          have _ := bb (bk Z19) hb
          have _ := bb (bk Z27) hb
          have _ := bs hb
          clear Z9 Z13 Z19 Z27 HB
          rename_i Z9 Z13 Z19 Z27 HB
          (try clear hb)
          refine hK.out _ _ ⟨(blk_cell Z9.out 0).trans rfl, (blk_cell Z9.out 1).trans rfl, (blk_cell Z13.out 0).trans rfl, (blk_cell Z13.out 1).trans rfl, (hc HB Z115), (hc HB Z114), (hc HB Z113), (hc HB Z112), (hc HB Z111), (hc HB Z110), (hc HB Z131), (hc HB Z130), (hc HB Z129), (hc HB Z128), (hc HB Z127), (hc HB Z126)⟩ (fun hHeld => ?_)
          clear hK K
          refine nm 38 ?_
          refine pu 11 27 (bl 16 4095) ?_
          refine pu 12 39 (bl 16 8191) ?_
          refine pu 13 40 (bl 16 16383) ?_
          refine pu 14 10 (bl 16 32767) ?_
          refine pu 15 11 (bl 16 65535) ?_
          refine done_ (done_of HT_.out (by kernel_rfl)) ?_
          have Z134 := Z30.out
          have Z135 := Z29.out
          have Z136 := Z34.out
          have Z137 := Z33.out
          obtain ⟨Z138, Z139, Z140, Z141, Z142, Z143, Z144, Z145, Z146, Z147⟩ := zc5 Z27
          have Z148 := Z21.out
          have Z149 := Z22.out
          obtain ⟨Z150, Z151, Z152, Z153⟩ := zc2 Z9
          obtain ⟨Z154, Z155, Z156, Z157⟩ := zc2 Z13
          try go_wp2
          go_roundg Z79
          case measure => have := Z58.out; have := Z78.out; omega
          case rel => exact ⟨(true), (wrap64 (Z72 + 1)), (a0_0), (a1_0), (Z84), (Z52), (Z72), rs, rs, H', ⟨by have := Z58.out; have := Z78.out; omega⟩, ⟨bk Z9⟩, ⟨bk Z13⟩, ⟨bk Z19⟩, ⟨bp Z27⟩, ⟨bq⟩⟩
         ·have H' := ra H; clear H
          have Z90 := Z16.out
          have Z91 := Z15.out
          have Z92 := Z23.out
          have Z93 := Z24.out
          have Z94 := Z31.out
          have Z95 := Z32.out
          obtain ⟨Z96, Z97, Z98, Z99⟩ := zc2 Z13
          try go_wp2
          have _ := ra (blk_drew Z9.out)
          have _ := ra (blk_drew Z13.out)
          have _ := ra (blk_drew Z19.out)
          have _ := ra (blk_drew Z27.out)
          have _ := ra (below_drew1 HB.out)
          clear Z9 Z13 Z19 Z27 HB
          rename_i Z9 Z13 Z19 Z27 HB
          have Z100 : 0 ≤ (Z52 : Int) := od
          have Z101 : Z52 < (l0_1.length : Int) := od
          obtain ⟨Z102, Z103, Z104, Z105, Z106, Z107, Z108, Z109⟩ := at_T46 Z3.out Z52 Z100 Z101
          have Z110 := Z109
          have Z111 := Z108
          have Z112 := Z107
          have Z113 := Z106
          have Z114 := Z105
          have Z115 := Z104
          cases Z103
          replace Z104 := hc HB Z104
          replace Z105 := hc HB Z105
          replace Z106 := hc HB Z106
          replace Z107 := hc HB Z107
          replace Z108 := hc HB Z108
          replace Z109 := hc HB Z109
          replace Z100 := eq_true Z100
          replace Z101 := eq_true Z101
          have Z116 : 0 ≤ (Z72 : Int) := od
          have Z117 : Z72 < (l1_1.length : Int) := od
          obtain ⟨Z118, Z119, Z120, Z121, Z122, Z123, Z124, Z125⟩ := at_T46 Z5.out Z72 Z116 Z117
          have Z126 := Z125
          have Z127 := Z124
          have Z128 := Z123
          have Z129 := Z122
          have Z130 := Z121
          have Z131 := Z120
          cases Z119
          replace Z120 := hc HB Z120
          replace Z121 := hc HB Z121
          replace Z122 := hc HB Z122
          replace Z123 := hc HB Z123
          replace Z124 := hc HB Z124
          replace Z125 := hc HB Z125
          replace Z116 := eq_true Z116
          replace Z117 := eq_true Z117
          refine start_ (n := 16) (S := fun w' => w'.cell? ⟨Z7, 0, none⟩ = some (.string a0_0) ∧ w'.cell? ⟨Z7, 1, none⟩ = some (.slice (some Z102) l0_1.length c0_1) ∧ w'.cell? ⟨Z11, 0, none⟩ = some (.string a1_0) ∧ w'.cell? ⟨Z11, 1, none⟩ = some (.slice (some Z118) l1_1.length c1_1) ∧ w'.cell? (Z102.add ((Z52).toNat * 6)) = some (.int .i64 ((rd_T46 l0_1 Z52).f0)) ∧ w'.cell? ⟨(Z102.add ((Z52).toNat * 6)).block, (Z102.add ((Z52).toNat * 6)).off + 1, none⟩ = some (.int .i64 ((rd_T46 l0_1 Z52).f1)) ∧ w'.cell? ⟨(Z102.add ((Z52).toNat * 6)).block, (Z102.add ((Z52).toNat * 6)).off + 2, none⟩ = some (.int .i64 ((rd_T46 l0_1 Z52).f2)) ∧ w'.cell? ⟨(Z102.add ((Z52).toNat * 6)).block, (Z102.add ((Z52).toNat * 6)).off + 3, none⟩ = some (.int .i64 ((rd_T46 l0_1 Z52).f3)) ∧ w'.cell? ⟨(Z102.add ((Z52).toNat * 6)).block, (Z102.add ((Z52).toNat * 6)).off + 4, none⟩ = some (.int .i64 ((rd_T46 l0_1 Z52).f4)) ∧ w'.cell? ⟨(Z102.add ((Z52).toNat * 6)).block, (Z102.add ((Z52).toNat * 6)).off + 5, none⟩ = some (.int .i64 ((rd_T46 l0_1 Z52).f5)) ∧ w'.cell? (Z118.add ((Z72).toNat * 6)) = some (.int .i64 ((rd_T46 l1_1 Z72).f0)) ∧ w'.cell? ⟨(Z118.add ((Z72).toNat * 6)).block, (Z118.add ((Z72).toNat * 6)).off + 1, none⟩ = some (.int .i64 ((rd_T46 l1_1 Z72).f1)) ∧ w'.cell? ⟨(Z118.add ((Z72).toNat * 6)).block, (Z118.add ((Z72).toNat * 6)).off + 2, none⟩ = some (.int .i64 ((rd_T46 l1_1 Z72).f2)) ∧ w'.cell? ⟨(Z118.add ((Z72).toNat * 6)).block, (Z118.add ((Z72).toNat * 6)).off + 3, none⟩ = some (.int .i64 ((rd_T46 l1_1 Z72).f3)) ∧ w'.cell? ⟨(Z118.add ((Z72).toNat * 6)).block, (Z118.add ((Z72).toNat * 6)).off + 4, none⟩ = some (.int .i64 ((rd_T46 l1_1 Z72).f4)) ∧ w'.cell? ⟨(Z118.add ((Z72).toNat * 6)).block, (Z118.add ((Z72).toNat * 6)).off + 5, none⟩ = some (.int .i64 ((rd_T46 l1_1 Z72).f5))) (ds := []) (bl 16 0) (by kernel_rfl) rfl rfl ⟨(blk_cell Z9.out 0).trans rfl, (blk_cell Z9.out 1).trans rfl, (blk_cell Z13.out 0).trans rfl, (blk_cell Z13.out 1).trans rfl, (hc HB Z115), (hc HB Z114), (hc HB Z113), (hc HB Z112), (hc HB Z111), (hc HB Z110), (hc HB Z131), (hc HB Z130), (hc HB Z129), (hc HB Z128), (hc HB Z127), (hc HB Z126)⟩ (fun hHeld => ?_); refine with_tabW spec_l3Meet.tab9 spec_l3Meet.bits9 (fun HT_ HW_ => ?_)
          generalize wr.drew = Z132 at Z9 Z13 Z19 Z27 HB Z104 Z105 Z106 Z107 Z108 Z109 Z120 Z121 Z122 Z123 Z124 Z125 hHeld ⊢
          refine pu 0 28 (bl 16 1) ?_
          refine pu 2 30 (bl 16 5) ?_
          refine pu 5 33 (bl 16 37) ?_
          refine pu 7 35 (bl 16 165) ?_
          refine tk 1 29 (bl 16 167) ?_ hHeld
          refine pu 3 31 (bl 16 175) ?_
          refine tk 4 32 (bl 16 191) ?_ hHeld
          refine tk 6 34 (bl 16 255) ?_ hHeld
          refine pu 8 36 (bl 16 511) ?_
          refine tk 9 37 (bl 16 1023) ?_ hHeld
          refine oe 10 38 (bl 16 2047) (fun K hK => ?_)
          refine gs Tryz.func70 #[.agg #[.int .i64 ((rd_T46 l0_1 Z52).f0), .int .i64 ((rd_T46 l0_1 Z52).f1), .int .i64 ((rd_T46 l0_1 Z52).f2), .int .i64 ((rd_T46 l0_1 Z52).f3), .int .i64 ((rd_T46 l0_1 Z52).f4), .int .i64 ((rd_T46 l0_1 Z52).f5)], .agg #[.int .i64 ((rd_T46 l1_1 Z72).f0), .int .i64 ((rd_T46 l1_1 Z72).f1), .int .i64 ((rd_T46 l1_1 Z72).f2), .int .i64 ((rd_T46 l1_1 Z72).f3), .int .i64 ((rd_T46 l1_1 Z72).f4), .int .i64 ((rd_T46 l1_1 Z72).f5)]] ?_
          with_reducible refine (spec_l1Close.calls Z79 ((rd_T46 l0_1 Z52).f0) ((rd_T46 l0_1 Z52).f1) ((rd_T46 l0_1 Z52).f2) ((rd_T46 l0_1 Z52).f3) ((rd_T46 l0_1 Z52).f4) ((rd_T46 l0_1 Z52).f5) ((rd_T46 l1_1 Z72).f0) ((rd_T46 l1_1 Z72).f1) ((rd_T46 l1_1 Z72).f2) ((rd_T46 l1_1 Z72).f3) ((rd_T46 l1_1 Z72).f4) ((rd_T46 l1_1 Z72).f5) Z84 true _ Z86.out).mono ?_
          rintro e Z133 ⟨rfl, hb⟩
          refine ⟨_, rfl, ?_⟩
          have _ := bb (bk Z9) hb
          have _ := bb (bk Z13) hb
          have _ := bb (bk Z19) hb
          have _ := bb (bk Z27) hb
          have _ := bs hb
          clear Z9 Z13 Z19 Z27 HB
          rename_i Z9 Z13 Z19 Z27 HB
          (try clear hb)
          refine hK.out _ _ ⟨(blk_cell Z9.out 0).trans rfl, (blk_cell Z9.out 1).trans rfl, (blk_cell Z13.out 0).trans rfl, (blk_cell Z13.out 1).trans rfl, (hc HB Z115), (hc HB Z114), (hc HB Z113), (hc HB Z112), (hc HB Z111), (hc HB Z110), (hc HB Z131), (hc HB Z130), (hc HB Z129), (hc HB Z128), (hc HB Z127), (hc HB Z126)⟩ (fun hHeld => ?_)
          clear hK K
          refine nm 38 ?_
          refine pu 11 27 (bl 16 4095) ?_
          refine pu 12 39 (bl 16 8191) ?_
          refine pu 13 40 (bl 16 16383) ?_
          refine pu 14 10 (bl 16 32767) ?_
          refine pu 15 11 (bl 16 65535) ?_
          refine done_ (done_of HT_.out (by kernel_rfl)) ?_
          have Z134 := Z30.out
          have Z135 := Z29.out
          have Z136 := Z34.out
          have Z137 := Z33.out
          obtain ⟨Z138, Z139, Z140, Z141, Z142, Z143, Z144, Z145, Z146, Z147⟩ := zc5 Z27
          try go_wp2
          go_roundg Z79
          case measure => have := Z58.out; have := Z78.out; omega
          case rel => exact ⟨(true), (wrap64 (Z72 + 1)), (Z73), (Z74), (Z75), (Z76), (Z77), rs, rs, H', ⟨by have := Z58.out; have := Z78.out; omega⟩, ⟨bk Z9⟩, ⟨bk Z13⟩, ⟨bk Z19⟩, ⟨bk Z27⟩, ⟨bq⟩⟩
        ·have H' := ra H; clear H
         have Z89 := Z16.out
         have Z90 := Z15.out
         have Z91 := Z23.out
         have Z92 := Z24.out
         have Z93 := Z31.out
         have Z94 := Z32.out
         obtain ⟨Z95, Z96, Z97, Z98⟩ := zc2 Z13
         try go_wp2
         have _ := ra (blk_drew Z9.out)
         have _ := ra (blk_drew Z13.out)
         have _ := ra (blk_drew Z19.out)
         have _ := ra (blk_drew Z27.out)
         have _ := ra (below_drew1 HB.out)
         clear Z9 Z13 Z19 Z27 HB
         rename_i Z9 Z13 Z19 Z27 HB
         have Z99 : 0 ≤ (Z52 : Int) := od
         have Z100 : Z52 < (l0_1.length : Int) := od
         obtain ⟨Z101, Z102, Z103, Z104, Z105, Z106, Z107, Z108⟩ := at_T46 Z3.out Z52 Z99 Z100
         have Z109 := Z108
         have Z110 := Z107
         have Z111 := Z106
         have Z112 := Z105
         have Z113 := Z104
         have Z114 := Z103
         cases Z102
         replace Z103 := hc HB Z103
         replace Z104 := hc HB Z104
         replace Z105 := hc HB Z105
         replace Z106 := hc HB Z106
         replace Z107 := hc HB Z107
         replace Z108 := hc HB Z108
         replace Z99 := eq_true Z99
         replace Z100 := eq_true Z100
         have Z115 : 0 ≤ (Z72 : Int) := od
         have Z116 : Z72 < (l1_1.length : Int) := od
         obtain ⟨Z117, Z118, Z119, Z120, Z121, Z122, Z123, Z124⟩ := at_T46 Z5.out Z72 Z115 Z116
         have Z125 := Z124
         have Z126 := Z123
         have Z127 := Z122
         have Z128 := Z121
         have Z129 := Z120
         have Z130 := Z119
         cases Z118
         replace Z119 := hc HB Z119
         replace Z120 := hc HB Z120
         replace Z121 := hc HB Z121
         replace Z122 := hc HB Z122
         replace Z123 := hc HB Z123
         replace Z124 := hc HB Z124
         replace Z115 := eq_true Z115
         replace Z116 := eq_true Z116
         refine start_ (n := 16) (S := fun w' => w'.cell? ⟨Z7, 0, none⟩ = some (.string a0_0) ∧ w'.cell? ⟨Z7, 1, none⟩ = some (.slice (some Z101) l0_1.length c0_1) ∧ w'.cell? ⟨Z11, 0, none⟩ = some (.string a1_0) ∧ w'.cell? ⟨Z11, 1, none⟩ = some (.slice (some Z117) l1_1.length c1_1) ∧ w'.cell? (Z101.add ((Z52).toNat * 6)) = some (.int .i64 ((rd_T46 l0_1 Z52).f0)) ∧ w'.cell? ⟨(Z101.add ((Z52).toNat * 6)).block, (Z101.add ((Z52).toNat * 6)).off + 1, none⟩ = some (.int .i64 ((rd_T46 l0_1 Z52).f1)) ∧ w'.cell? ⟨(Z101.add ((Z52).toNat * 6)).block, (Z101.add ((Z52).toNat * 6)).off + 2, none⟩ = some (.int .i64 ((rd_T46 l0_1 Z52).f2)) ∧ w'.cell? ⟨(Z101.add ((Z52).toNat * 6)).block, (Z101.add ((Z52).toNat * 6)).off + 3, none⟩ = some (.int .i64 ((rd_T46 l0_1 Z52).f3)) ∧ w'.cell? ⟨(Z101.add ((Z52).toNat * 6)).block, (Z101.add ((Z52).toNat * 6)).off + 4, none⟩ = some (.int .i64 ((rd_T46 l0_1 Z52).f4)) ∧ w'.cell? ⟨(Z101.add ((Z52).toNat * 6)).block, (Z101.add ((Z52).toNat * 6)).off + 5, none⟩ = some (.int .i64 ((rd_T46 l0_1 Z52).f5)) ∧ w'.cell? (Z117.add ((Z72).toNat * 6)) = some (.int .i64 ((rd_T46 l1_1 Z72).f0)) ∧ w'.cell? ⟨(Z117.add ((Z72).toNat * 6)).block, (Z117.add ((Z72).toNat * 6)).off + 1, none⟩ = some (.int .i64 ((rd_T46 l1_1 Z72).f1)) ∧ w'.cell? ⟨(Z117.add ((Z72).toNat * 6)).block, (Z117.add ((Z72).toNat * 6)).off + 2, none⟩ = some (.int .i64 ((rd_T46 l1_1 Z72).f2)) ∧ w'.cell? ⟨(Z117.add ((Z72).toNat * 6)).block, (Z117.add ((Z72).toNat * 6)).off + 3, none⟩ = some (.int .i64 ((rd_T46 l1_1 Z72).f3)) ∧ w'.cell? ⟨(Z117.add ((Z72).toNat * 6)).block, (Z117.add ((Z72).toNat * 6)).off + 4, none⟩ = some (.int .i64 ((rd_T46 l1_1 Z72).f4)) ∧ w'.cell? ⟨(Z117.add ((Z72).toNat * 6)).block, (Z117.add ((Z72).toNat * 6)).off + 5, none⟩ = some (.int .i64 ((rd_T46 l1_1 Z72).f5))) (ds := []) (bl 16 0) (by kernel_rfl) rfl rfl ⟨(blk_cell Z9.out 0).trans rfl, (blk_cell Z9.out 1).trans rfl, (blk_cell Z13.out 0).trans rfl, (blk_cell Z13.out 1).trans rfl, (hc HB Z114), (hc HB Z113), (hc HB Z112), (hc HB Z111), (hc HB Z110), (hc HB Z109), (hc HB Z130), (hc HB Z129), (hc HB Z128), (hc HB Z127), (hc HB Z126), (hc HB Z125)⟩ (fun hHeld => ?_); refine with_tabW spec_l3Meet.tab9 spec_l3Meet.bits9 (fun HT_ HW_ => ?_)
         generalize wr.drew = Z131 at Z9 Z13 Z19 Z27 HB Z103 Z104 Z105 Z106 Z107 Z108 Z119 Z120 Z121 Z122 Z123 Z124 hHeld ⊢
         refine pu 0 28 (bl 16 1) ?_
         refine pu 2 30 (bl 16 5) ?_
         refine pu 5 33 (bl 16 37) ?_
         refine pu 7 35 (bl 16 165) ?_
         refine tk 1 29 (bl 16 167) ?_ hHeld
         refine pu 3 31 (bl 16 175) ?_
         refine tk 4 32 (bl 16 191) ?_ hHeld
         refine tk 6 34 (bl 16 255) ?_ hHeld
         refine pu 8 36 (bl 16 511) ?_
         refine tk 9 37 (bl 16 1023) ?_ hHeld
         refine oe 10 38 (bl 16 2047) (fun K hK => ?_)
         refine gs Tryz.func70 #[.agg #[.int .i64 ((rd_T46 l0_1 Z52).f0), .int .i64 ((rd_T46 l0_1 Z52).f1), .int .i64 ((rd_T46 l0_1 Z52).f2), .int .i64 ((rd_T46 l0_1 Z52).f3), .int .i64 ((rd_T46 l0_1 Z52).f4), .int .i64 ((rd_T46 l0_1 Z52).f5)], .agg #[.int .i64 ((rd_T46 l1_1 Z72).f0), .int .i64 ((rd_T46 l1_1 Z72).f1), .int .i64 ((rd_T46 l1_1 Z72).f2), .int .i64 ((rd_T46 l1_1 Z72).f3), .int .i64 ((rd_T46 l1_1 Z72).f4), .int .i64 ((rd_T46 l1_1 Z72).f5)]] ?_
         with_reducible refine (spec_l1Close.calls Z79 ((rd_T46 l0_1 Z52).f0) ((rd_T46 l0_1 Z52).f1) ((rd_T46 l0_1 Z52).f2) ((rd_T46 l0_1 Z52).f3) ((rd_T46 l0_1 Z52).f4) ((rd_T46 l0_1 Z52).f5) ((rd_T46 l1_1 Z72).f0) ((rd_T46 l1_1 Z72).f1) ((rd_T46 l1_1 Z72).f2) ((rd_T46 l1_1 Z72).f3) ((rd_T46 l1_1 Z72).f4) ((rd_T46 l1_1 Z72).f5) Z84 true _ Z86.out).mono ?_
         rintro e Z132 ⟨rfl, hb⟩
         refine ⟨_, rfl, ?_⟩
         have _ := bb (bk Z9) hb
         have _ := bb (bk Z13) hb
         have _ := bb (bk Z19) hb
         have _ := bb (bk Z27) hb
         have _ := bs hb
         clear Z9 Z13 Z19 Z27 HB
         rename_i Z9 Z13 Z19 Z27 HB
         (try clear hb)
         refine hK.out _ _ ⟨(blk_cell Z9.out 0).trans rfl, (blk_cell Z9.out 1).trans rfl, (blk_cell Z13.out 0).trans rfl, (blk_cell Z13.out 1).trans rfl, (hc HB Z114), (hc HB Z113), (hc HB Z112), (hc HB Z111), (hc HB Z110), (hc HB Z109), (hc HB Z130), (hc HB Z129), (hc HB Z128), (hc HB Z127), (hc HB Z126), (hc HB Z125)⟩ (fun hHeld => ?_)
         clear hK K
         refine nm 38 ?_
         refine pu 11 27 (bl 16 4095) ?_
         refine pu 12 39 (bl 16 8191) ?_
         refine pu 13 40 (bl 16 16383) ?_
         refine pu 14 10 (bl 16 32767) ?_
         refine pu 15 11 (bl 16 65535) ?_
         refine done_ (done_of HT_.out (by kernel_rfl)) ?_
         have Z133 := Z21.out
         have Z134 := Z22.out
         have Z135 := Z29.out
         have Z136 := Z30.out
         obtain ⟨Z137, Z138, Z139, Z140⟩ := zc2 Z9
         obtain ⟨Z141, Z142, Z143, Z144⟩ := zc2 Z13
         have Z145 := Z34.out
         have Z146 := Z33.out
         obtain ⟨Z147, Z148, Z149, Z150, Z151, Z152, Z153, Z154, Z155, Z156⟩ := zc5 Z27
         try go_wp2
         go_roundg Z79
         case measure => have := Z58.out; have := Z78.out; omega
         case rel => exact ⟨(true), (wrap64 (Z72 + 1)), (a0_0), (a1_0), (Z84), (Z52), (Z72), rs, rs, H', ⟨by have := Z58.out; have := Z78.out; omega⟩, ⟨bk Z9⟩, ⟨bk Z13⟩, ⟨bk Z19⟩, ⟨bp Z27⟩, ⟨bq⟩⟩
       ·have H' := ra H; clear H
        have Z88 := Z16.out
        have Z89 := Z15.out
        have Z90 := Z23.out
        have Z91 := Z24.out
        have Z92 := Z31.out
        have Z93 := Z32.out
        obtain ⟨Z94, Z95, Z96, Z97⟩ := zc2 Z13
        try go_wp2
        have _ := ra (blk_drew Z9.out)
        have _ := ra (blk_drew Z13.out)
        have _ := ra (blk_drew Z19.out)
        have _ := ra (blk_drew Z27.out)
        have _ := ra (below_drew1 HB.out)
        clear Z9 Z13 Z19 Z27 HB
        rename_i Z9 Z13 Z19 Z27 HB
        have Z98 : 0 ≤ (Z52 : Int) := od
        have Z99 : Z52 < (l0_1.length : Int) := od
        obtain ⟨Z100, Z101, Z102, Z103, Z104, Z105, Z106, Z107⟩ := at_T46 Z3.out Z52 Z98 Z99
        have Z108 := Z107
        have Z109 := Z106
        have Z110 := Z105
        have Z111 := Z104
        have Z112 := Z103
        have Z113 := Z102
        cases Z101
        replace Z102 := hc HB Z102
        replace Z103 := hc HB Z103
        replace Z104 := hc HB Z104
        replace Z105 := hc HB Z105
        replace Z106 := hc HB Z106
        replace Z107 := hc HB Z107
        replace Z98 := eq_true Z98
        replace Z99 := eq_true Z99
        have Z114 : 0 ≤ (Z72 : Int) := od
        have Z115 : Z72 < (l1_1.length : Int) := od
        obtain ⟨Z116, Z117, Z118, Z119, Z120, Z121, Z122, Z123⟩ := at_T46 Z5.out Z72 Z114 Z115
        have Z124 := Z123
        have Z125 := Z122
        have Z126 := Z121
        have Z127 := Z120
        have Z128 := Z119
        have Z129 := Z118
        cases Z117
        replace Z118 := hc HB Z118
        replace Z119 := hc HB Z119
        replace Z120 := hc HB Z120
        replace Z121 := hc HB Z121
        replace Z122 := hc HB Z122
        replace Z123 := hc HB Z123
        replace Z114 := eq_true Z114
        replace Z115 := eq_true Z115
        refine start_ (n := 16) (S := fun w' => w'.cell? ⟨Z7, 0, none⟩ = some (.string a0_0) ∧ w'.cell? ⟨Z7, 1, none⟩ = some (.slice (some Z100) l0_1.length c0_1) ∧ w'.cell? ⟨Z11, 0, none⟩ = some (.string a1_0) ∧ w'.cell? ⟨Z11, 1, none⟩ = some (.slice (some Z116) l1_1.length c1_1) ∧ w'.cell? (Z100.add ((Z52).toNat * 6)) = some (.int .i64 ((rd_T46 l0_1 Z52).f0)) ∧ w'.cell? ⟨(Z100.add ((Z52).toNat * 6)).block, (Z100.add ((Z52).toNat * 6)).off + 1, none⟩ = some (.int .i64 ((rd_T46 l0_1 Z52).f1)) ∧ w'.cell? ⟨(Z100.add ((Z52).toNat * 6)).block, (Z100.add ((Z52).toNat * 6)).off + 2, none⟩ = some (.int .i64 ((rd_T46 l0_1 Z52).f2)) ∧ w'.cell? ⟨(Z100.add ((Z52).toNat * 6)).block, (Z100.add ((Z52).toNat * 6)).off + 3, none⟩ = some (.int .i64 ((rd_T46 l0_1 Z52).f3)) ∧ w'.cell? ⟨(Z100.add ((Z52).toNat * 6)).block, (Z100.add ((Z52).toNat * 6)).off + 4, none⟩ = some (.int .i64 ((rd_T46 l0_1 Z52).f4)) ∧ w'.cell? ⟨(Z100.add ((Z52).toNat * 6)).block, (Z100.add ((Z52).toNat * 6)).off + 5, none⟩ = some (.int .i64 ((rd_T46 l0_1 Z52).f5)) ∧ w'.cell? (Z116.add ((Z72).toNat * 6)) = some (.int .i64 ((rd_T46 l1_1 Z72).f0)) ∧ w'.cell? ⟨(Z116.add ((Z72).toNat * 6)).block, (Z116.add ((Z72).toNat * 6)).off + 1, none⟩ = some (.int .i64 ((rd_T46 l1_1 Z72).f1)) ∧ w'.cell? ⟨(Z116.add ((Z72).toNat * 6)).block, (Z116.add ((Z72).toNat * 6)).off + 2, none⟩ = some (.int .i64 ((rd_T46 l1_1 Z72).f2)) ∧ w'.cell? ⟨(Z116.add ((Z72).toNat * 6)).block, (Z116.add ((Z72).toNat * 6)).off + 3, none⟩ = some (.int .i64 ((rd_T46 l1_1 Z72).f3)) ∧ w'.cell? ⟨(Z116.add ((Z72).toNat * 6)).block, (Z116.add ((Z72).toNat * 6)).off + 4, none⟩ = some (.int .i64 ((rd_T46 l1_1 Z72).f4)) ∧ w'.cell? ⟨(Z116.add ((Z72).toNat * 6)).block, (Z116.add ((Z72).toNat * 6)).off + 5, none⟩ = some (.int .i64 ((rd_T46 l1_1 Z72).f5))) (ds := []) (bl 16 0) (by kernel_rfl) rfl rfl ⟨(blk_cell Z9.out 0).trans rfl, (blk_cell Z9.out 1).trans rfl, (blk_cell Z13.out 0).trans rfl, (blk_cell Z13.out 1).trans rfl, (hc HB Z113), (hc HB Z112), (hc HB Z111), (hc HB Z110), (hc HB Z109), (hc HB Z108), (hc HB Z129), (hc HB Z128), (hc HB Z127), (hc HB Z126), (hc HB Z125), (hc HB Z124)⟩ (fun hHeld => ?_); refine with_tabW spec_l3Meet.tab9 spec_l3Meet.bits9 (fun HT_ HW_ => ?_)
        generalize wr.drew = Z130 at Z9 Z13 Z19 Z27 HB Z102 Z103 Z104 Z105 Z106 Z107 Z118 Z119 Z120 Z121 Z122 Z123 hHeld ⊢
        refine pu 0 28 (bl 16 1) ?_
        refine pu 2 30 (bl 16 5) ?_
        refine pu 5 33 (bl 16 37) ?_
        refine pu 7 35 (bl 16 165) ?_
        refine tk 1 29 (bl 16 167) ?_ hHeld
        refine pu 3 31 (bl 16 175) ?_
        refine tk 4 32 (bl 16 191) ?_ hHeld
        refine tk 6 34 (bl 16 255) ?_ hHeld
        refine pu 8 36 (bl 16 511) ?_
        refine tk 9 37 (bl 16 1023) ?_ hHeld
        refine oe 10 38 (bl 16 2047) (fun K hK => ?_)
        refine gs Tryz.func70 #[.agg #[.int .i64 ((rd_T46 l0_1 Z52).f0), .int .i64 ((rd_T46 l0_1 Z52).f1), .int .i64 ((rd_T46 l0_1 Z52).f2), .int .i64 ((rd_T46 l0_1 Z52).f3), .int .i64 ((rd_T46 l0_1 Z52).f4), .int .i64 ((rd_T46 l0_1 Z52).f5)], .agg #[.int .i64 ((rd_T46 l1_1 Z72).f0), .int .i64 ((rd_T46 l1_1 Z72).f1), .int .i64 ((rd_T46 l1_1 Z72).f2), .int .i64 ((rd_T46 l1_1 Z72).f3), .int .i64 ((rd_T46 l1_1 Z72).f4), .int .i64 ((rd_T46 l1_1 Z72).f5)]] ?_
        with_reducible refine (spec_l1Close.calls Z79 ((rd_T46 l0_1 Z52).f0) ((rd_T46 l0_1 Z52).f1) ((rd_T46 l0_1 Z52).f2) ((rd_T46 l0_1 Z52).f3) ((rd_T46 l0_1 Z52).f4) ((rd_T46 l0_1 Z52).f5) ((rd_T46 l1_1 Z72).f0) ((rd_T46 l1_1 Z72).f1) ((rd_T46 l1_1 Z72).f2) ((rd_T46 l1_1 Z72).f3) ((rd_T46 l1_1 Z72).f4) ((rd_T46 l1_1 Z72).f5) Z84 false _ Z86.out).mono ?_
        rintro e Z131 ⟨rfl, hb⟩
        refine ⟨_, rfl, ?_⟩
        have _ := bb (bk Z9) hb
        have _ := bb (bk Z13) hb
        have _ := bb (bk Z19) hb
        have _ := bb (bk Z27) hb
        have _ := bs hb
        clear Z9 Z13 Z19 Z27 HB
        rename_i Z9 Z13 Z19 Z27 HB
        (try clear hb)
        refine hK.out _ _ ⟨(blk_cell Z9.out 0).trans rfl, (blk_cell Z9.out 1).trans rfl, (blk_cell Z13.out 0).trans rfl, (blk_cell Z13.out 1).trans rfl, (hc HB Z113), (hc HB Z112), (hc HB Z111), (hc HB Z110), (hc HB Z109), (hc HB Z108), (hc HB Z129), (hc HB Z128), (hc HB Z127), (hc HB Z126), (hc HB Z125), (hc HB Z124)⟩ (fun hHeld => ?_)
        clear hK K
        refine nm 38 ?_
        refine pu 11 27 (bl 16 4095) ?_
        refine pu 12 39 (bl 16 8191) ?_
        refine pu 13 40 (bl 16 16383) ?_
        refine pu 14 10 (bl 16 32767) ?_
        refine pu 15 11 (bl 16 65535) ?_
        refine done_ (done_of HT_.out (by kernel_rfl)) ?_
        try go_wp2
        go_roundg Z79
        case measure => have := Z58.out; have := Z78.out; omega
        case rel => exact ⟨(Z71), (wrap64 (Z72 + 1)), (Z73), (Z74), (Z75), (Z76), (Z77), rs, rs, H', ⟨by have := Z58.out; have := Z78.out; omega⟩, ⟨bk Z9⟩, ⟨bk Z13⟩, ⟨bk Z19⟩, ⟨bk Z27⟩, ⟨bq⟩⟩
      ·have H' := ra H; clear H
       have Z81 := Z16.out
       have Z82 := Z15.out
       have Z83 := Z23.out
       have Z84 := Z24.out
       have Z85 := Z31.out
       have Z86 := Z32.out
       obtain ⟨Z87, Z88, Z89, Z90⟩ := zc2 Z13
       go_wp2
       go_roundg Z79
       case measure => have := Z58.out; have := Z78.out; omega
       case rel => exact ⟨(Z71), (wrap64 (Z52 + 1)), (Z73), (Z74), (Z75), (Z76), (Z77), rs, rs, H', ⟨by have := Z58.out; have := Z78.out; omega⟩, ⟨bk Z9⟩, ⟨bk Z13⟩, ⟨bk Z19⟩, ⟨bk Z27⟩, ⟨bq⟩⟩
   ·simp only [Option.some.injEq, Prod.mk.injEq] at H
    obtain ⟨rfl, rfl, rfl, rfl, rfl, rfl⟩ := H
    have Z61 := Z15.out
    have Z62 := Z16.out
    have Z63 := Z21.out
    have Z64 := Z22.out
    have Z65 := Z29.out
    have Z66 := Z30.out
    obtain ⟨Z67, Z68, Z69, Z70⟩ := zc2 Z9
    have Z71 := Z32.out
    have Z72 := Z31.out
    have Z73 := Z34.out
    have Z74 := Z33.out
    obtain ⟨Z75, Z76, Z77, Z78, Z79, Z80, Z81, Z82, Z83, Z84⟩ := zc5 Z27
    have Z85 := Z24.out
    have Z86 := Z23.out
    obtain ⟨Z87, Z88, Z89, Z90, Z91, Z92, Z93, Z94, Z95, Z96⟩ := zc5 Z19
    go_wp2
    refine bodyPost_ret (results_ct rfl _ _ Z17 70 #[.string Z53, .string Z54, .int .i64 Z55, .int .i64 Z56, .int .i64 Z57] (0, 0) _ rfl (bp Z19) Tryz.underlying70 rfl (by kernel_rfl)) rfl ?_
    exact ⟨re, bq⟩
theorem spec_ProbeMeet.calls (k : Nat) (a0_0 : ByteArray) (A0_1 : Option Addr) (c0_1 : Nat) (l0_1 : List (S46)) (a1_0 : ByteArray) (A1_1 : Option Addr) (c1_1 : Nat) (l1_1 : List (S46)) (r1 r2 : ByteArray) (r3 r4 r5 : Int) (r6 : Bool) (w : World) (hr0_1 : Kd.C k46 w A0_1 l0_1.length l0_1) (hc0_1 : l0_1.length ≤ c0_1) (hr1_1 : Kd.C k46 w A1_1 l1_1.length l1_1) (hc1_1 : l1_1.length ≤ c1_1) (h : spec_ProbeMeet.f k a0_0 l0_1 a1_0 l1_1 = some (r1, r2, r3, r4, r5, r6)) :
  Calls Tryz.prog 53 #[.agg #[.string a0_0, .slice A0_1 l0_1.length c0_1], .agg #[.string a1_0, .slice A1_1 l1_1.length c1_1]] w fun e w' => e = .returned (.tuple #[.agg #[.string r1, .string r2, .int .i64 r3, .int .i64 r4, .int .i64 r5], .bool r6]) ∧ Below w.heap.size w w' := by
 have Z0 := Tryz.underlying33
 have Z1 := Tryz.underlying70
 have Z2 := ra hr0_1
 have Z3 := ra hc0_1
 clear hr0_1 hc0_1
 have Z4 := ra hr1_1
 have Z5 := ra hc1_1
 clear hr1_1 hc1_1
 have HB := ra (Below.refl w.heap.size w)
 have H := h; unfold spec_ProbeMeet.f at H
 clear h
 obtain ⟨Z6, Z7, H⟩ := bo H
 rcases ud H with ⟨rfl, Z8⟩ | ⟨rfl, Z8⟩ <;> have H := Z8
 ·obtain ⟨Z9, Z10, H⟩ := bo H
  rcases ud H with ⟨rfl, Z11⟩ | ⟨rfl, Z11⟩ <;> have H := Z11
  ·obtain ⟨⟨Z12, Z13, Z14, Z15, Z16, Z17⟩, Z18, H⟩ := bo H
   try dsimp only at H
   simp only [Option.some.injEq, Prod.mk.injEq] at H
   obtain ⟨rfl, rfl, rfl, rfl, rfl, rfl⟩ := H
   go_enter Tryz.func53, Tryz.ntmps53
   go_wp2_with (first | ((with_reducible refine gd 2 rfl ?_); refine bd 2 #[.string a0_0, .slice A0_1 l0_1.length c0_1] 33 ?_; intro Z19 Z20 HB Z21 Z22) | ((with_reducible refine gd 3 rfl ?_); refine bf 3 #[.string a1_0, .slice A1_1 l1_1.length c1_1] 33 ?_; intro Z23 Z24 hg hb HB Z25 Z26; have Z27 := bn hg (bk Z21); have Z28 := bm hg (bk Z21); replace Z21 := bb (bk Z21) hb; clear hg hb) | ((with_reducible refine gd 4 rfl ?_); refine bf 4 #[.string (⟨#[]⟩ : ByteArray), .string (⟨#[]⟩ : ByteArray), .int .i64 0, .int .i64 0, .int .i64 0] 70 ?_; intro Z29 Z30 hg hb HB Z31 Z32; have Z33 := bn hg (bk Z21); have Z34 := bm hg (bk Z21); have Z35 := bn hg (bk Z25); have Z36 := bm hg (bk Z25); replace Z21 := bb (bk Z21) hb; replace Z25 := bb (bk Z25) hb; have Z37 := Z27.out; have Z38 := Z28.out; have Z39 := Z33.out; have Z40 := Z34.out; obtain ⟨Z41, Z42, Z43, Z44⟩ := zc2 Z21; clear hg hb) | ((with_reducible refine gc 50 rfl ?_); refine gy (some 7) Tryz.func50 (spec_ProbeTubeOk.calls _ _ _ _ _ _ _ (sc Z2) Z3.out Z7.out) ?_; rintro Z45 hb; replace Z21 := bb (bk Z21) hb; replace Z25 := bb (bk Z25) hb; replace Z31 := bb (bk Z31) hb; replace HB := bs hb; clear hb; have Z46 := Z35.out; have Z47 := Z36.out; obtain ⟨Z48, Z49, Z50, Z51⟩ := zc2 Z25) | (go_at_call 50; (with_reducible refine (spec_ProbeTubeOk.calls _ _ _ _ _ _ _ ?side1 ?side2 Z10.out).mono ?_); (case side1 => exact sc Z4); (case side2 => exact Z5.out); rintro e Z52 ⟨rfl, hb⟩; replace Z21 := bb (bk Z21) hb; replace Z25 := bb (bk Z25) hb; replace Z31 := bb (bk Z31) hb; replace HB := bs hb; clear hb; obtain ⟨Z53, Z54, Z55, Z56⟩ := zc2 Z21; obtain ⟨Z57, Z58, Z59, Z60⟩ := zc2 Z25) | ((with_reducible refine gc 49 rfl ?_); refine gy (some 17) Tryz.func49 (spec_l3Meet.calls _ _ _ _ _ _ _ _ _ _ _ _ _ _ _ _ (sc Z2) Z3.out (sc Z4) Z5.out Z18.out) ?_; rintro Z61 hb; replace Z21 := bb (bk Z21) hb; replace Z25 := bb (bk Z25) hb; replace Z31 := bb (bk Z31) hb; replace HB := bs hb; clear hb; obtain ⟨Z62, Z63, Z64, Z65, Z66, Z67, Z68, Z69, Z70, Z71⟩ := zc5 Z31))
   refine bodyPost_ret (results_ct rfl _ _ Z29 70 #[.string Z12, .string Z13, .int .i64 Z14, .int .i64 Z15, .int .i64 Z16] (0, 0) _ rfl (bp Z31) Tryz.underlying70 rfl (by kernel_rfl)) rfl ?_
   exact ⟨re, bq⟩
  ·simp only [Option.some.injEq, Prod.mk.injEq] at H
   obtain ⟨rfl, rfl, rfl, rfl, rfl, rfl⟩ := H
   go_enter Tryz.func53, Tryz.ntmps53
   go_wp2_with (first | ((with_reducible refine gd 2 rfl ?_); refine bd 2 #[.string a0_0, .slice A0_1 l0_1.length c0_1] 33 ?_; intro Z12 Z13 HB Z14 Z15) | ((with_reducible refine gd 3 rfl ?_); refine bf 3 #[.string a1_0, .slice A1_1 l1_1.length c1_1] 33 ?_; intro Z16 Z17 hg hb HB Z18 Z19; have Z20 := bn hg (bk Z14); have Z21 := bm hg (bk Z14); replace Z14 := bb (bk Z14) hb; clear hg hb) | ((with_reducible refine gd 4 rfl ?_); refine bf 4 #[.string (⟨#[]⟩ : ByteArray), .string (⟨#[]⟩ : ByteArray), .int .i64 0, .int .i64 0, .int .i64 0] 70 ?_; intro Z22 Z23 hg hb HB Z24 Z25; have Z26 := bn hg (bk Z14); have Z27 := bm hg (bk Z14); have Z28 := bn hg (bk Z18); have Z29 := bm hg (bk Z18); replace Z14 := bb (bk Z14) hb; replace Z18 := bb (bk Z18) hb; have Z30 := Z20.out; have Z31 := Z21.out; have Z32 := Z26.out; have Z33 := Z27.out; obtain ⟨Z34, Z35, Z36, Z37⟩ := zc2 Z14; clear hg hb) | ((with_reducible refine gc 50 rfl ?_); refine gy (some 7) Tryz.func50 (spec_ProbeTubeOk.calls _ _ _ _ _ _ _ (sc Z2) Z3.out Z7.out) ?_; rintro Z38 hb; replace Z14 := bb (bk Z14) hb; replace Z18 := bb (bk Z18) hb; replace Z24 := bb (bk Z24) hb; replace HB := bs hb; clear hb; have Z39 := Z28.out; have Z40 := Z29.out; obtain ⟨Z41, Z42, Z43, Z44⟩ := zc2 Z18) | (go_at_call 50; (with_reducible refine (spec_ProbeTubeOk.calls _ _ _ _ _ _ _ ?side1 ?side2 Z10.out).mono ?_); (case side1 => exact sc Z4); (case side2 => exact Z5.out); rintro e Z45 ⟨rfl, hb⟩; replace Z14 := bb (bk Z14) hb; replace Z18 := bb (bk Z18) hb; replace Z24 := bb (bk Z24) hb; replace HB := bs hb; clear hb; obtain ⟨Z46, Z47, Z48, Z49, Z50, Z51, Z52, Z53, Z54, Z55⟩ := zc5 Z24))
   refine bodyPost_ret (results_ct rfl _ _ Z22 70 #[.string (⟨#[]⟩ : ByteArray), .string (⟨#[]⟩ : ByteArray), .int .i64 0, .int .i64 0, .int .i64 0] (0, 0) _ rfl (bp Z24) Tryz.underlying70 rfl (by kernel_rfl)) rfl ?_
   exact ⟨re, bq⟩
 ·simp only [Option.some.injEq, Prod.mk.injEq] at H
  obtain ⟨rfl, rfl, rfl, rfl, rfl, rfl⟩ := H
  go_enter Tryz.func53, Tryz.ntmps53
  go_wp2_with (first | ((with_reducible refine gd 2 rfl ?_); refine bd 2 #[.string a0_0, .slice A0_1 l0_1.length c0_1] 33 ?_; intro Z9 Z10 HB Z11 Z12) | ((with_reducible refine gd 3 rfl ?_); refine bf 3 #[.string a1_0, .slice A1_1 l1_1.length c1_1] 33 ?_; intro Z13 Z14 hg hb HB Z15 Z16; have Z17 := bn hg (bk Z11); have Z18 := bm hg (bk Z11); replace Z11 := bb (bk Z11) hb; clear hg hb) | ((with_reducible refine gd 4 rfl ?_); refine bf 4 #[.string (⟨#[]⟩ : ByteArray), .string (⟨#[]⟩ : ByteArray), .int .i64 0, .int .i64 0, .int .i64 0] 70 ?_; intro Z19 Z20 hg hb HB Z21 Z22; have Z23 := bn hg (bk Z11); have Z24 := bm hg (bk Z11); have Z25 := bn hg (bk Z15); have Z26 := bm hg (bk Z15); replace Z11 := bb (bk Z11) hb; replace Z15 := bb (bk Z15) hb; have Z27 := Z17.out; have Z28 := Z18.out; have Z29 := Z23.out; have Z30 := Z24.out; obtain ⟨Z31, Z32, Z33, Z34⟩ := zc2 Z11; clear hg hb) | ((with_reducible refine gc 50 rfl ?_); refine gy (some 7) Tryz.func50 (spec_ProbeTubeOk.calls _ _ _ _ _ _ _ (sc Z2) Z3.out Z7.out) ?_; rintro Z35 hb; replace Z11 := bb (bk Z11) hb; replace Z15 := bb (bk Z15) hb; replace Z21 := bb (bk Z21) hb; replace HB := bs hb; clear hb; have Z36 := Z26.out; have Z37 := Z25.out; obtain ⟨Z38, Z39, Z40, Z41, Z42, Z43, Z44, Z45, Z46, Z47⟩ := zc5 Z21))
  refine bodyPost_ret (results_ct rfl _ _ Z19 70 #[.string (⟨#[]⟩ : ByteArray), .string (⟨#[]⟩ : ByteArray), .int .i64 0, .int .i64 0, .int .i64 0] (0, 0) _ rfl (bp Z21) Tryz.underlying70 rfl (by kernel_rfl)) rfl ?_
  exact ⟨re, bq⟩
def spec_ProbeAll.T10 : Bool × List (List Nat × List Nat) := (true, [([], []), ([], []), ([0, 1], [0, 1]), ([2], [2]), ([], []), ([], []), ([4, 5], [4, 5]), ([6], [6]), ([3, 7], [3, 7]), ([8], [8]), ([9], [9]), ([9], [9]), ([], []), ([12, 10, 8, 0, 1, 2, 3, 4, 5, 6, 7, 8, 9, 10, 12], [10, 12]), ([11, 13, 0, 1, 2, 3, 4, 5, 6, 7, 8, 9, 10, 11, 12, 13], [11])])
def spec_ProbeAll.B10 : List Nat := [0, 0, 3, 7, 0, 0, 48, 112, 255, 511, 1023, 1023, 0, 6143, 16383]
theorem spec_ProbeAll.tab10 : rtab .any (opsOf Tryz.f22 10) = spec_ProbeAll.T10 := by kernel_rfl
theorem spec_ProbeAll.bits10 : waitsOk spec_ProbeAll.T10.2 spec_ProbeAll.B10 = true := by kernel_rfl
theorem spec_ProbeAll.calls (k : Nat) (A0 : Option Addr) (c0 : Nat) (l0 : List (S33)) (r : List (S70)) (w : World) (hr0 : Kd.C k33 w A0 l0.length l0) (hc0 : l0.length ≤ c0) (h : spec_ProbeAll.f k l0 = some r) :
  Calls Tryz.prog 22 #[.slice A0 l0.length c0] w fun e w' => ∃ v0_ : Value, e = .returned (v0_) ∧ Kd.R k70 70 w' w.heap.size (fun _ => True) v0_ r ∧ Below w.heap.size w w' := by
 have Z0 := Tryz.underlying33
 have Z1 := Tryz.underlying70
 have Z2 := ra hr0
 have Z3 := ra hc0
 clear hr0 hc0
 have HB := ra (Below.refl w.heap.size w)
 have H := h; unfold spec_ProbeAll.f at H
 clear h
 obtain ⟨Z4, hy_⟩ : ∃ y_ : List (S70), y_ = (([] : List (S70))) := ⟨_, rfl⟩
 replace H : ((spec_ProbeSkyOk.f k l0).bind fun t239 => (if t239 = true then (spec_ProbeAll.l0 k l0 Z4 0) else (some Z4))) = some r := yh
 have Z5 := ra hy_
 clear hy_
 obtain ⟨Z6, Z7, H⟩ := bo H
 rcases ud H with ⟨rfl, Z8⟩ | ⟨rfl, Z8⟩ <;> have H := Z8
 ·have H' := ra H; clear H
  go_enter Tryz.func22, Tryz.ntmps22
  go_wp2_with (first | ((with_reducible refine gd 8 rfl ?_); refine Kd.R_lit k70 _ 70 ?hg (N := 8) ?hd (xs := ([] : List (S70))) (inner := []) (ok := fun _ => True) (okp := fun _ => True) ?hr ?hp (fun _ hk => hk) trivial (Below.refl _ _) (Nat.le_refl _) (by simp) ?_; (case hd => rfl); (case hg => rfl); (case hr => first | (go_simp; done) | (go_simp; rfl)); (case hp => exact (Reps.none _ _)); intro Z9 Z10 Z11 hb hg_ hnew_; clear hg_ hnew_; (first | rw [← Z5.out] at Z11 | (simp only [Int.reduceToNat] at Z11; rw [← Z5.out] at Z11)); have Z12 := ra (Kd.R_lower Z11 (below_size bq)); replace HB := bs hb; clear hb Z11) | ((with_reducible refine gc 48 rfl ?_); refine gy (some 10) Tryz.func48 (spec_ProbeSkyOk.calls _ _ _ _ _ _ (sc Z2) Z3.out Z7.out) ?_; rintro Z13 hb; replace Z12 := ra (Kd.R_below (rq Z12) hb); replace HB := bs hb; clear hb))
  go_loopg [3, 4] k (fun kq v3 v4 w' => ∃ (x3_1 : List (S70)) (x4_1 : Int), v4 = .int .i64 x4_1 ∧ Aside0 (spec_ProbeAll.l0 kq l0 x3_1 x4_1 = some r) ∧ Aside0 (kq ≤ k) ∧ Aside0 (Kd.R k70 70 w' w.heap.size (fun _ => True) v3 x3_1) ∧ Aside0 (Below w.heap.size w w'))
  case atStart => exact ⟨_, _, rs, H', ⟨Nat.le_refl _⟩, ⟨rq Z12⟩, ⟨bq⟩⟩
  case round =>
   clear H'
   obtain ⟨Z14, Z15, rfl, HA, Z16, Z17, HB⟩ := hrel
   cases gk with
   | zero => exact absurd HA.out (by simp [spec_ProbeAll.l0])
   | succ Z18 =>
    have H := HA.out
    clear HA
    simp only [spec_ProbeAll.l0] at H
    rcases td H with ⟨Z19, H⟩ | ⟨Z19, H⟩
    ·have H' := ra H; clear H
     go_wp2
     go_loopg [3, 5] Z18 (fun kq v3 v5 w' => ∃ (x3_2 : List (S70)) (x5_2 : Int), v5 = .int .i64 x5_2 ∧ Aside0 (spec_ProbeAll.l1 kq l0 x3_2 Z15 x5_2 = some r) ∧ Aside0 (kq ≤ Z18) ∧ Aside0 (Kd.R k70 70 w' w.heap.size (fun _ => True) v3 x3_2) ∧ Aside0 (Below w.heap.size w w'))
     case atStart => exact ⟨_, _, rs, H', ⟨Nat.le_refl _⟩, ⟨rq Z17⟩, ⟨bq⟩⟩
     case round =>
      clear H'
      try clear Z19
      obtain ⟨Z20, Z21, rfl, HA, Z22, Z17, HB⟩ := hrel
      cases gk with
      | zero => exact absurd HA.out (by simp [spec_ProbeAll.l1])
      | succ Z23 =>
       have H := HA.out
       clear HA
       simp only [spec_ProbeAll.l1] at H
       rcases td H with ⟨Z24, H⟩ | ⟨Z24, H⟩
       ·obtain ⟨Z25, H⟩ := tn H
        obtain ⟨Z26, H⟩ := tn H
        obtain ⟨Z27, H⟩ := tn H
        obtain ⟨⟨Z28, Z29, Z30, Z31, Z32, Z33⟩, Z34, H⟩ := bo H
        try dsimp only at H
        rcases ud H with ⟨rfl, Z35⟩ | ⟨rfl, Z35⟩ <;> have H := Z35
        ·by_cases Z36 : Z20.length < 2513169434916
         ·rw [if_pos Z36] at H
          have Z37 := ra Z36; clear Z36
          obtain ⟨Z38, hy_⟩ : ∃ y_ : List (S70), y_ = (Z20 ++ [(⟨Z28, Z29, Z30, Z31, Z32⟩ : S70)]) := ⟨_, rfl⟩
          replace H : (spec_ProbeAll.l1 Z23 l0 Z38 Z15 (wrap64 (Z21 + 1))) = some r := yh
          have Z39 := ra hy_
          clear hy_
          have H' := ra H; clear H
          try go_wp2
          have _ := ra (Kd.R_drew Z17.out)
          have _ := ra (below_drew1 HB.out)
          clear Z17 HB
          rename_i Z17 HB
          have Z40 : 0 ≤ (Z15 : Int) := od
          have Z41 : Z15 < (l0.length : Int) := od
          obtain ⟨Z42, Z43, Z44, Z45, Z46, Z47, Z48, Z49⟩ := at_T33 Z2.out Z15 Z40 Z41
          have Z50 := Z47
          have Z51 := Z46
          cases Z45
          replace Z46 := hc HB Z46
          replace Z47 := hc HB Z47
          have Z52 := ra Z49
          have Z53 := ra Z48
          clear Z49 Z48
          replace Z40 := eq_true Z40
          replace Z41 := eq_true Z41
          have Z54 : 0 ≤ (Z21 : Int) := od
          have Z55 : Z21 < (l0.length : Int) := od
          obtain ⟨Z56, Z57, Z58, Z59, Z60, Z61, Z62, Z63⟩ := at_T33 Z2.out Z21 Z54 Z55
          have Z64 := Z61
          have Z65 := Z60
          obtain rfl : Z42 = Z56 := (by injection Z59)
          replace Z60 := hc HB Z60
          replace Z61 := hc HB Z61
          have Z66 := ra Z63
          have Z67 := ra Z62
          clear Z63 Z62
          replace Z54 := eq_true Z54
          replace Z55 := eq_true Z55
          refine start_ (n := 15) (S := fun w' => w'.cell? (Z42.add ((Z15).toNat * 2)) = some (.string ((rd_T33 l0 Z15).f0)) ∧ w'.cell? ⟨(Z42.add ((Z15).toNat * 2)).block, (Z42.add ((Z15).toNat * 2)).off + 1, none⟩ = some (.slice Z43 ((rd_T33 l0 Z15).f1).length Z44) ∧ w'.cell? (Z42.add ((Z21).toNat * 2)) = some (.string ((rd_T33 l0 Z21).f0)) ∧ w'.cell? ⟨(Z42.add ((Z21).toNat * 2)).block, (Z42.add ((Z21).toNat * 2)).off + 1, none⟩ = some (.slice Z57 ((rd_T33 l0 Z21).f1).length Z58)) (ds := []) (bl 15 0) (by kernel_rfl) rfl rfl ⟨(hc HB Z51), (hc HB Z50), (hc HB Z65), (hc HB Z64)⟩ (fun hHeld => ?_); refine with_tabW spec_ProbeAll.tab10 spec_ProbeAll.bits10 (fun HT_ HW_ => ?_)
          generalize wr.drew = Z68 at Z17 HB Z52 Z66 Z46 Z47 Z60 Z61 hHeld ⊢
          refine pu 0 28 (bl 15 1) ?_
          refine pu 1 29 (bl 15 3) ?_
          refine pu 2 30 (bl 15 7) ?_
          refine pu 4 32 (bl 15 23) ?_
          refine pu 5 33 (bl 15 55) ?_
          refine pu 6 34 (bl 15 119) ?_
          refine tk 3 31 (bl 15 127) ?_ hHeld
          refine tk 7 35 (bl 15 255) ?_ hHeld
          refine join_ (σ := Nat) 2 #[true, true, true, true, true, true, true, true, true, true, true, true, true, false, false] (fun s_ => [(36, .tuple #[.agg #[.string Z28, .string Z29, .int .i64 Z30, .int .i64 Z31, .int .i64 Z32], .bool true]), (6, .pointer (some ⟨s_, 0, none⟩)), (27, .tuple #[.agg #[.string Z28, .string Z29, .int .i64 Z30, .int .i64 Z31, .int .i64 Z32], .bool true]), (37, .agg #[.string Z28, .string Z29, .int .i64 Z30, .int .i64 Z31, .int .i64 Z32]), (38, .bool true)]) (fun s_ w' => (w'.cell? (Z42.add ((Z15).toNat * 2)) = some (.string ((rd_T33 l0 Z15).f0)) ∧ w'.cell? ⟨(Z42.add ((Z15).toNat * 2)).block, (Z42.add ((Z15).toNat * 2)).off + 1, none⟩ = some (.slice Z43 ((rd_T33 l0 Z15).f1).length Z44) ∧ w'.cell? (Z42.add ((Z21).toNat * 2)) = some (.string ((rd_T33 l0 Z21).f0)) ∧ w'.cell? ⟨(Z42.add ((Z21).toNat * 2)).block, (Z42.add ((Z21).toNat * 2)).off + 1, none⟩ = some (.slice Z57 ((rd_T33 l0 Z21).f1).length Z58)) ∧ (Kd.R k70 70 w' w.heap.size (fun k_ => k_ ≠ s_) u3 Z20) ∧ (w'.heap[s_]? = some (.cells #[.string (⟨#[]⟩ : ByteArray), .string (⟨#[]⟩ : ByteArray), .int .i64 0, .int .i64 0, .int .i64 0] 70 (0, 0))) ∧ (w.heap.size ≤ s_) ∧ (w.heap.size ≤ s_) ∧ (Below w.heap.size w w')) ?_ ?_
          rotate_left
          ·intro hCont
           refine two_ (i := 8) (j := 12) (Ni := some 36) (Nj := some 6) #[true, true, true, true, true, true, true, true, true, false, false, false, false, false, false] #[true, true, true, true, true, true, true, true, false, false, false, false, true, false, false] rfl rfl rfl rfl (two_of HT_.out (by kernel_rfl)) (by decide) (by decide) (fun K hK => ?_) (fun K hK => ?_)
           ·skip
            refine gs Tryz.func49 #[.agg #[.string ((rd_T33 l0 Z15).f0), .slice Z43 ((rd_T33 l0 Z15).f1).length Z44], .agg #[.string ((rd_T33 l0 Z21).f0), .slice Z57 ((rd_T33 l0 Z21).f1).length Z58]] ?_
            with_reducible refine (spec_l3Meet.calls Z23 ((rd_T33 l0 Z15).f0) _ _ ((rd_T33 l0 Z15).f1) ((rd_T33 l0 Z21).f0) _ _ ((rd_T33 l0 Z21).f1) Z28 Z29 Z30 Z31 Z32 true _ ?side1 ?side2 ?side3 ?side4 Z34.out).mono ?_
            (case side1 => exact sc Z52)
            (case side2 => exact Z53.out)
            (case side3 => exact sc Z66)
            (case side4 => exact Z67.out)
            rintro e Z69 ⟨rfl, hb⟩
            refine ⟨_, rfl, ?_⟩
            have _ := ra (Kd.R_below (rq Z17) hb)
            have _ := bs hb
            clear Z17 HB
            rename_i Z17 HB
            (try clear hb)
            (try clear hk)
            refine hK.out _ _ ⟨(hc HB Z51), (hc HB Z50), (hc HB Z65), (hc HB Z64)⟩ (fun hHeld => ?_)
            clear hK K
            refine nm 36 ?_
            refine pu 9 27 (bl 15 1023) ?_
            refine pu 10 37 (bl 15 2047) ?_
            refine pu 11 38 (bl 15 4095) ?_
            refine oe 12 6 (bl 15 8191) (fun K hK => ?_)
            refine box_step ?hg (N := 6) ?hd (cs := #[.string (⟨#[]⟩ : ByteArray), .string (⟨#[]⟩ : ByteArray), .int .i64 0, .int .i64 0, .int .i64 0]) (t := 70) ?hr ?_; (case hd => rfl); (case hg => rfl); (case hr => first | (go_simp; done) | (go_simp; rfl))
            intro Z70 hg Z71 hbox hb
            have _ := ra (Kd.R_below (Kd.R_elderB (rq Z17) Z70 (Nat.le_of_eq hg.symm)) hb)
            have _ := bs hb
            have _ := ra (hbox)
            have _ := bz (w0 := w) hg
            have _ := bz (w0 := w) hg
            clear Z17 HB
            rename_i Z17 HB Z72 Z73 Z74
            clear hb hbox hg
            refine hK.out _ _ ⟨(hc HB Z51), (hc HB Z50), (hc HB Z65), (hc HB Z64)⟩ (fun hHeld => ?_)
            clear hK K
            refine nm 6 ?_
            exact norm_ (by simp only [putAll, Act.put, List.setIfInBounds_toArray, List.set_cons_zero, List.set_cons_succ]) (hCont (Z70) _ ⟨hHeld, (by (with_reducible repeat (first | apply Kd.R_alloc | apply Kd.R_drewN | apply Kd.R_drew)); exact Kd.R_mono Z17.out (fun _ hk => hk.2)), (bk Z72), Z73.out, Z74.out, bq⟩)
           ·skip
            refine box_step ?hg (N := 6) ?hd (cs := #[.string (⟨#[]⟩ : ByteArray), .string (⟨#[]⟩ : ByteArray), .int .i64 0, .int .i64 0, .int .i64 0]) (t := 70) ?hr ?_; (case hd => rfl); (case hg => rfl); (case hr => first | (go_simp; done) | (go_simp; rfl))
            intro Z69 hg Z70 hbox hb
            have _ := ra (Kd.R_below (Kd.R_elderB (rq Z17) Z69 (Nat.le_of_eq hg.symm)) hb)
            have _ := bs hb
            have _ := ra (hbox)
            have _ := bz (w0 := w) hg
            have _ := bz (w0 := w) hg
            clear Z17 HB
            rename_i Z17 HB Z71 Z72 Z73
            clear hb hbox hg
            refine hK.out _ _ ⟨(hc HB Z51), (hc HB Z50), (hc HB Z65), (hc HB Z64)⟩ (fun hHeld => ?_)
            clear hK K
            refine nm 6 ?_
            refine oe 8 36 (bl 15 4607) (fun K hK => ?_)
            refine gs Tryz.func49 #[.agg #[.string ((rd_T33 l0 Z15).f0), .slice Z43 ((rd_T33 l0 Z15).f1).length Z44], .agg #[.string ((rd_T33 l0 Z21).f0), .slice Z57 ((rd_T33 l0 Z21).f1).length Z58]] ?_
            with_reducible refine (spec_l3Meet.calls Z23 ((rd_T33 l0 Z15).f0) _ _ ((rd_T33 l0 Z15).f1) ((rd_T33 l0 Z21).f0) _ _ ((rd_T33 l0 Z21).f1) Z28 Z29 Z30 Z31 Z32 true _ ?side1 ?side2 ?side3 ?side4 Z34.out).mono ?_
            (case side1 => exact sc Z52)
            (case side2 => exact Z53.out)
            (case side3 => exact sc Z66)
            (case side4 => exact Z67.out)
            rintro e Z74 ⟨rfl, hb⟩
            refine ⟨_, rfl, ?_⟩
            have _ := ra (Kd.R_below (rq Z17) hb)
            have _ := bb (bk Z71) hb
            have _ := bs hb
            clear Z17 Z71 HB
            rename_i Z17 Z71 HB
            (try clear hb)
            (try clear hk)
            refine hK.out _ _ ⟨(hc HB Z51), (hc HB Z50), (hc HB Z65), (hc HB Z64)⟩ (fun hHeld => ?_)
            clear hK K
            refine nm 36 ?_
            refine pu 9 27 (bl 15 5119) ?_
            refine pu 10 37 (bl 15 6143) ?_
            refine pu 11 38 (bl 15 8191) ?_
            exact norm_ (by simp only [putAll, Act.put, List.setIfInBounds_toArray, List.set_cons_zero, List.set_cons_succ]) (hCont (Z69) _ ⟨hHeld, (by (with_reducible repeat (first | apply Kd.R_alloc | apply Kd.R_drewN | apply Kd.R_drew)); exact Kd.R_mono Z17.out (fun _ hk => hk.2)), (bk Z71), Z72.out, Z73.out, bq⟩)
          rintro Z69 Z70 ⟨hS_, Z71, Z72, Z73, Z74, Z75⟩
          have _ : Aside0 (Kd.R k70 70 Z70 w.heap.size (fun k_ => k_ ≠ Z69) u3 Z20) := ⟨Z71⟩
          have _ : Aside0 (Z70.heap[Z69]? = some (.cells #[.string (⟨#[]⟩ : ByteArray), .string (⟨#[]⟩ : ByteArray), .int .i64 0, .int .i64 0, .int .i64 0] 70 (0, 0))) := ⟨Z72⟩
          have _ : Aside0 (w.heap.size ≤ Z69) := ⟨Z73⟩
          have _ : Aside0 (w.heap.size ≤ Z69) := ⟨Z74⟩
          have _ : Aside0 (Below w.heap.size w Z70) := ⟨Z75⟩
          clear Z17 HB
          clear Z71 Z72 Z73 Z74 Z75
          rename_i Z17 Z76 Z77 Z78 HB
          have hHeld : Z70.cell? (Z42.add ((Z15).toNat * 2)) = some (.string ((rd_T33 l0 Z15).f0)) ∧ Z70.cell? ⟨(Z42.add ((Z15).toNat * 2)).block, (Z42.add ((Z15).toNat * 2)).off + 1, none⟩ = some (.slice Z43 ((rd_T33 l0 Z15).f1).length Z44) ∧ Z70.cell? (Z42.add ((Z21).toNat * 2)) = some (.string ((rd_T33 l0 Z21).f0)) ∧ Z70.cell? ⟨(Z42.add ((Z21).toNat * 2)).block, (Z42.add ((Z21).toNat * 2)).off + 1, none⟩ = some (.slice Z57 ((rd_T33 l0 Z21).f1).length Z58) := hS_
          refine norm_ (a' := ?_) ?_ ?_
          rotate_left
          ·simp only [putAll, Act.put, List.setIfInBounds_toArray, List.set_cons_zero, List.set_cons_succ]
           rfl
          refine one_ (i := 13) (N := none) #[true, true, true, true, true, true, true, true, true, true, true, true, true, true, false] rfl rfl (one_of HT_.out (by kernel_rfl)) (by decide) (fun K hK => ?_)
          have Z79 : Z70.cell? ⟨Z69, 0, none⟩ = some (.string (⟨#[]⟩ : ByteArray)) := (blk_cell Z76.out 0).trans rfl
          have Z80 := blk_frozen Z76.out 0
          have Z81 : Z70.cell? ⟨Z69, 1, none⟩ = some (.string (⟨#[]⟩ : ByteArray)) := (blk_cell Z76.out 1).trans rfl
          have Z82 := blk_frozen Z76.out 1
          have Z83 : Z70.cell? ⟨Z69, 2, none⟩ = some (.int .i64 0) := (blk_cell Z76.out 2).trans rfl
          have Z84 := blk_frozen Z76.out 2
          have Z85 : Z70.cell? ⟨Z69, 3, none⟩ = some (.int .i64 0) := (blk_cell Z76.out 3).trans rfl
          have Z86 := blk_frozen Z76.out 3
          have Z87 : Z70.cell? ⟨Z69, 4, none⟩ = some (.int .i64 0) := (blk_cell Z76.out 4).trans rfl
          have Z88 := blk_frozen Z76.out 4
          refine skip_ (w1 := ?_) (by rfl) rfl ?_ ?_
          rotate_left
          ·go_simp
           rfl
          refine hK.out _ _ ⟨cg hHeld.1 Z51, cg hHeld.2.1 Z50, cg hHeld.2.2.1 Z65, cg hHeld.2.2.2 Z64⟩ (fun hHeld => ?_)
          clear hK K
          refine pu 14 7 (bl 15 32767) ?_
          refine done_ (done_of HT_.out (by kernel_rfl)) ?_
          obtain ⟨Z89, Z90, Z91, Z92, Z93, Z94, Z95, Z96, Z97, Z98⟩ := zc5 Z76
          try go_wp2_with (first | ((with_reducible refine gate_builtin (b := .append) (xs := #[.tmp 40, .tmp 42]) rfl ?_); at_builtin; refine Kd.R_append k70 (w0 := w) w.heap.size rfl (.tmp 40) (.tmp 42) 57 70 (.agg #[(.string ⟨#[]⟩), (.string ⟨#[]⟩), (.int .i64 0), (.int .i64 0), (.int .i64 0)]) 56 rfl Tryz.underlying57 info70 rfl (by decide) (by omega) u3 Z20 (⟨Z28, Z29, Z30, Z31, Z32⟩ : S70) [.string Z28, .string Z29, .int .i64 Z30, .int .i64 Z31, .int .i64 Z32] (fun k_ => k_ ≠ Z69) (fun _ => False) rfl (by first | (go_simp; done) | (go_simp; rfl)) ?aP (fun _ hk => hk.elim) ?aF ?aO ?aB ?aS ?aL ?_; (case aP => exact k70_mkM _ _ _ (⟨Z28, Z29, Z30, Z31, Z32⟩ : S70)); (case aB => exact bq); (case aF => exact (fun k_ hk => Kd.freshB (g := Z69) (o := .cells #[.string Z28, .string Z29, .int .i64 Z30, .int .i64 Z31, .int .i64 Z32] 70 (0, 0)) (bp Z76) k_ hk)); (case aO => exact (by (with_reducible repeat (first | apply Kd.R_alloc | apply Kd.R_drewN | apply Kd.R_drew)); exact Kd.R_mono (rf (Kd.R_mono Z17.out (fun k_ hk => (⟨hk, hk⟩ : _ ∧ k_ ≠ Z69)))) (fun _ hk => hk.1))); (case aS => exact (below_size bq)); (case aL => have := Z37.out; omega); intro Z99 Z100 ho hb hg hat; rw [← Z39.out] at ho; have _ := ra (blk_grown (g := Z69) (o := .cells #[.string Z28, .string Z29, .int .i64 Z30, .int .i64 Z31, .int .i64 Z32] 70 (0, 0)) (bp Z76) hg (Kd.R_away Z17.out (fun _ hk => hk))); have _ := ra (hb); have _ := ra (ho); clear Z76 HB Z17; rename_i Z76 HB Z101; clear ho hb hg hat))
          go_roundg Z23
          case measure => have := Z16.out; have := Z22.out; omega
          case rel => exact ⟨_, _, rs, H', ⟨by have := Z16.out; have := Z22.out; omega⟩, ⟨by (with_reducible repeat (first | apply Kd.R_alloc | apply Kd.R_drewN | apply Kd.R_drew)); exact Kd.R_mono Z101.out (fun _ hk => trivial)⟩, ⟨bq⟩⟩
         ·rw [if_neg Z36] at H
          exact absurd H (by simp)
        ·have H' := ra H; clear H
         try go_wp2
         have _ := ra (Kd.R_drew Z17.out)
         have _ := ra (below_drew1 HB.out)
         clear Z17 HB
         rename_i Z17 HB
         have Z36 : 0 ≤ (Z15 : Int) := od
         have Z37 : Z15 < (l0.length : Int) := od
         obtain ⟨Z38, Z39, Z40, Z41, Z42, Z43, Z44, Z45⟩ := at_T33 Z2.out Z15 Z36 Z37
         have Z46 := Z43
         have Z47 := Z42
         cases Z41
         replace Z42 := hc HB Z42
         replace Z43 := hc HB Z43
         have Z48 := ra Z45
         have Z49 := ra Z44
         clear Z45 Z44
         replace Z36 := eq_true Z36
         replace Z37 := eq_true Z37
         have Z50 : 0 ≤ (Z21 : Int) := od
         have Z51 : Z21 < (l0.length : Int) := od
         obtain ⟨Z52, Z53, Z54, Z55, Z56, Z57, Z58, Z59⟩ := at_T33 Z2.out Z21 Z50 Z51
         have Z60 := Z57
         have Z61 := Z56
         obtain rfl : Z38 = Z52 := (by injection Z55)
         replace Z56 := hc HB Z56
         replace Z57 := hc HB Z57
         have Z62 := ra Z59
         have Z63 := ra Z58
         clear Z59 Z58
         replace Z50 := eq_true Z50
         replace Z51 := eq_true Z51
         refine start_ (n := 15) (S := fun w' => w'.cell? (Z38.add ((Z15).toNat * 2)) = some (.string ((rd_T33 l0 Z15).f0)) ∧ w'.cell? ⟨(Z38.add ((Z15).toNat * 2)).block, (Z38.add ((Z15).toNat * 2)).off + 1, none⟩ = some (.slice Z39 ((rd_T33 l0 Z15).f1).length Z40) ∧ w'.cell? (Z38.add ((Z21).toNat * 2)) = some (.string ((rd_T33 l0 Z21).f0)) ∧ w'.cell? ⟨(Z38.add ((Z21).toNat * 2)).block, (Z38.add ((Z21).toNat * 2)).off + 1, none⟩ = some (.slice Z53 ((rd_T33 l0 Z21).f1).length Z54)) (ds := []) (bl 15 0) (by kernel_rfl) rfl rfl ⟨(hc HB Z47), (hc HB Z46), (hc HB Z61), (hc HB Z60)⟩ (fun hHeld => ?_); refine with_tabW spec_ProbeAll.tab10 spec_ProbeAll.bits10 (fun HT_ HW_ => ?_)
         generalize wr.drew = Z64 at Z17 HB Z48 Z62 Z42 Z43 Z56 Z57 hHeld ⊢
         refine pu 0 28 (bl 15 1) ?_
         refine pu 1 29 (bl 15 3) ?_
         refine pu 2 30 (bl 15 7) ?_
         refine pu 4 32 (bl 15 23) ?_
         refine pu 5 33 (bl 15 55) ?_
         refine pu 6 34 (bl 15 119) ?_
         refine tk 3 31 (bl 15 127) ?_ hHeld
         refine tk 7 35 (bl 15 255) ?_ hHeld
         refine join_ (σ := Nat) 2 #[true, true, true, true, true, true, true, true, true, true, true, true, true, false, false] (fun s_ => [(36, .tuple #[.agg #[.string Z28, .string Z29, .int .i64 Z30, .int .i64 Z31, .int .i64 Z32], .bool false]), (6, .pointer (some ⟨s_, 0, none⟩)), (27, .tuple #[.agg #[.string Z28, .string Z29, .int .i64 Z30, .int .i64 Z31, .int .i64 Z32], .bool false]), (37, .agg #[.string Z28, .string Z29, .int .i64 Z30, .int .i64 Z31, .int .i64 Z32]), (38, .bool false)]) (fun s_ w' => (w'.cell? (Z38.add ((Z15).toNat * 2)) = some (.string ((rd_T33 l0 Z15).f0)) ∧ w'.cell? ⟨(Z38.add ((Z15).toNat * 2)).block, (Z38.add ((Z15).toNat * 2)).off + 1, none⟩ = some (.slice Z39 ((rd_T33 l0 Z15).f1).length Z40) ∧ w'.cell? (Z38.add ((Z21).toNat * 2)) = some (.string ((rd_T33 l0 Z21).f0)) ∧ w'.cell? ⟨(Z38.add ((Z21).toNat * 2)).block, (Z38.add ((Z21).toNat * 2)).off + 1, none⟩ = some (.slice Z53 ((rd_T33 l0 Z21).f1).length Z54)) ∧ (Kd.R k70 70 w' w.heap.size (fun k_ => k_ ≠ s_) u3 Z20) ∧ (w'.heap[s_]? = some (.cells #[.string (⟨#[]⟩ : ByteArray), .string (⟨#[]⟩ : ByteArray), .int .i64 0, .int .i64 0, .int .i64 0] 70 (0, 0))) ∧ (w.heap.size ≤ s_) ∧ (w.heap.size ≤ s_) ∧ (Below w.heap.size w w')) ?_ ?_
         rotate_left
         ·intro hCont
          refine two_ (i := 8) (j := 12) (Ni := some 36) (Nj := some 6) #[true, true, true, true, true, true, true, true, true, false, false, false, false, false, false] #[true, true, true, true, true, true, true, true, false, false, false, false, true, false, false] rfl rfl rfl rfl (two_of HT_.out (by kernel_rfl)) (by decide) (by decide) (fun K hK => ?_) (fun K hK => ?_)
          ·skip
           refine gs Tryz.func49 #[.agg #[.string ((rd_T33 l0 Z15).f0), .slice Z39 ((rd_T33 l0 Z15).f1).length Z40], .agg #[.string ((rd_T33 l0 Z21).f0), .slice Z53 ((rd_T33 l0 Z21).f1).length Z54]] ?_
           with_reducible refine (spec_l3Meet.calls Z23 ((rd_T33 l0 Z15).f0) _ _ ((rd_T33 l0 Z15).f1) ((rd_T33 l0 Z21).f0) _ _ ((rd_T33 l0 Z21).f1) Z28 Z29 Z30 Z31 Z32 false _ ?side1 ?side2 ?side3 ?side4 Z34.out).mono ?_
           (case side1 => exact sc Z48)
           (case side2 => exact Z49.out)
           (case side3 => exact sc Z62)
           (case side4 => exact Z63.out)
           rintro e Z65 ⟨rfl, hb⟩
           refine ⟨_, rfl, ?_⟩
           have _ := ra (Kd.R_below (rq Z17) hb)
           have _ := bs hb
           clear Z17 HB
           rename_i Z17 HB
           (try clear hb)
           (try clear hk)
           refine hK.out _ _ ⟨(hc HB Z47), (hc HB Z46), (hc HB Z61), (hc HB Z60)⟩ (fun hHeld => ?_)
           clear hK K
           refine nm 36 ?_
           refine pu 9 27 (bl 15 1023) ?_
           refine pu 10 37 (bl 15 2047) ?_
           refine pu 11 38 (bl 15 4095) ?_
           refine oe 12 6 (bl 15 8191) (fun K hK => ?_)
           refine box_step ?hg (N := 6) ?hd (cs := #[.string (⟨#[]⟩ : ByteArray), .string (⟨#[]⟩ : ByteArray), .int .i64 0, .int .i64 0, .int .i64 0]) (t := 70) ?hr ?_; (case hd => rfl); (case hg => rfl); (case hr => first | (go_simp; done) | (go_simp; rfl))
           intro Z66 hg Z67 hbox hb
           have _ := ra (Kd.R_below (Kd.R_elderB (rq Z17) Z66 (Nat.le_of_eq hg.symm)) hb)
           have _ := bs hb
           have _ := ra (hbox)
           have _ := bz (w0 := w) hg
           have _ := bz (w0 := w) hg
           clear Z17 HB
           rename_i Z17 HB Z68 Z69 Z70
           clear hb hbox hg
           refine hK.out _ _ ⟨(hc HB Z47), (hc HB Z46), (hc HB Z61), (hc HB Z60)⟩ (fun hHeld => ?_)
           clear hK K
           refine nm 6 ?_
           exact norm_ (by simp only [putAll, Act.put, List.setIfInBounds_toArray, List.set_cons_zero, List.set_cons_succ]) (hCont (Z66) _ ⟨hHeld, (by (with_reducible repeat (first | apply Kd.R_alloc | apply Kd.R_drewN | apply Kd.R_drew)); exact Kd.R_mono Z17.out (fun _ hk => hk.2)), (bk Z68), Z69.out, Z70.out, bq⟩)
          ·skip
           refine box_step ?hg (N := 6) ?hd (cs := #[.string (⟨#[]⟩ : ByteArray), .string (⟨#[]⟩ : ByteArray), .int .i64 0, .int .i64 0, .int .i64 0]) (t := 70) ?hr ?_; (case hd => rfl); (case hg => rfl); (case hr => first | (go_simp; done) | (go_simp; rfl))
           intro Z65 hg Z66 hbox hb
           have _ := ra (Kd.R_below (Kd.R_elderB (rq Z17) Z65 (Nat.le_of_eq hg.symm)) hb)
           have _ := bs hb
           have _ := ra (hbox)
           have _ := bz (w0 := w) hg
           have _ := bz (w0 := w) hg
           clear Z17 HB
           rename_i Z17 HB Z67 Z68 Z69
           clear hb hbox hg
           refine hK.out _ _ ⟨(hc HB Z47), (hc HB Z46), (hc HB Z61), (hc HB Z60)⟩ (fun hHeld => ?_)
           clear hK K
           refine nm 6 ?_
           refine oe 8 36 (bl 15 4607) (fun K hK => ?_)
           refine gs Tryz.func49 #[.agg #[.string ((rd_T33 l0 Z15).f0), .slice Z39 ((rd_T33 l0 Z15).f1).length Z40], .agg #[.string ((rd_T33 l0 Z21).f0), .slice Z53 ((rd_T33 l0 Z21).f1).length Z54]] ?_
           with_reducible refine (spec_l3Meet.calls Z23 ((rd_T33 l0 Z15).f0) _ _ ((rd_T33 l0 Z15).f1) ((rd_T33 l0 Z21).f0) _ _ ((rd_T33 l0 Z21).f1) Z28 Z29 Z30 Z31 Z32 false _ ?side1 ?side2 ?side3 ?side4 Z34.out).mono ?_
           (case side1 => exact sc Z48)
           (case side2 => exact Z49.out)
           (case side3 => exact sc Z62)
           (case side4 => exact Z63.out)
           rintro e Z70 ⟨rfl, hb⟩
           refine ⟨_, rfl, ?_⟩
           have _ := ra (Kd.R_below (rq Z17) hb)
           have _ := bb (bk Z67) hb
           have _ := bs hb
           clear Z17 Z67 HB
           rename_i Z17 Z67 HB
           (try clear hb)
           (try clear hk)
           refine hK.out _ _ ⟨(hc HB Z47), (hc HB Z46), (hc HB Z61), (hc HB Z60)⟩ (fun hHeld => ?_)
           clear hK K
           refine nm 36 ?_
           refine pu 9 27 (bl 15 5119) ?_
           refine pu 10 37 (bl 15 6143) ?_
           refine pu 11 38 (bl 15 8191) ?_
           exact norm_ (by simp only [putAll, Act.put, List.setIfInBounds_toArray, List.set_cons_zero, List.set_cons_succ]) (hCont (Z65) _ ⟨hHeld, (by (with_reducible repeat (first | apply Kd.R_alloc | apply Kd.R_drewN | apply Kd.R_drew)); exact Kd.R_mono Z17.out (fun _ hk => hk.2)), (bk Z67), Z68.out, Z69.out, bq⟩)
         rintro Z65 Z66 ⟨hS_, Z67, Z68, Z69, Z70, Z71⟩
         have _ : Aside0 (Kd.R k70 70 Z66 w.heap.size (fun k_ => k_ ≠ Z65) u3 Z20) := ⟨Z67⟩
         have _ : Aside0 (Z66.heap[Z65]? = some (.cells #[.string (⟨#[]⟩ : ByteArray), .string (⟨#[]⟩ : ByteArray), .int .i64 0, .int .i64 0, .int .i64 0] 70 (0, 0))) := ⟨Z68⟩
         have _ : Aside0 (w.heap.size ≤ Z65) := ⟨Z69⟩
         have _ : Aside0 (w.heap.size ≤ Z65) := ⟨Z70⟩
         have _ : Aside0 (Below w.heap.size w Z66) := ⟨Z71⟩
         clear Z17 HB
         clear Z67 Z68 Z69 Z70 Z71
         rename_i Z17 Z72 Z73 Z74 HB
         have hHeld : Z66.cell? (Z38.add ((Z15).toNat * 2)) = some (.string ((rd_T33 l0 Z15).f0)) ∧ Z66.cell? ⟨(Z38.add ((Z15).toNat * 2)).block, (Z38.add ((Z15).toNat * 2)).off + 1, none⟩ = some (.slice Z39 ((rd_T33 l0 Z15).f1).length Z40) ∧ Z66.cell? (Z38.add ((Z21).toNat * 2)) = some (.string ((rd_T33 l0 Z21).f0)) ∧ Z66.cell? ⟨(Z38.add ((Z21).toNat * 2)).block, (Z38.add ((Z21).toNat * 2)).off + 1, none⟩ = some (.slice Z53 ((rd_T33 l0 Z21).f1).length Z54) := hS_
         refine norm_ (a' := ?_) ?_ ?_
         rotate_left
         ·simp only [putAll, Act.put, List.setIfInBounds_toArray, List.set_cons_zero, List.set_cons_succ]
          rfl
         refine one_ (i := 13) (N := none) #[true, true, true, true, true, true, true, true, true, true, true, true, true, true, false] rfl rfl (one_of HT_.out (by kernel_rfl)) (by decide) (fun K hK => ?_)
         have Z75 : Z66.cell? ⟨Z65, 0, none⟩ = some (.string (⟨#[]⟩ : ByteArray)) := (blk_cell Z72.out 0).trans rfl
         have Z76 := blk_frozen Z72.out 0
         have Z77 : Z66.cell? ⟨Z65, 1, none⟩ = some (.string (⟨#[]⟩ : ByteArray)) := (blk_cell Z72.out 1).trans rfl
         have Z78 := blk_frozen Z72.out 1
         have Z79 : Z66.cell? ⟨Z65, 2, none⟩ = some (.int .i64 0) := (blk_cell Z72.out 2).trans rfl
         have Z80 := blk_frozen Z72.out 2
         have Z81 : Z66.cell? ⟨Z65, 3, none⟩ = some (.int .i64 0) := (blk_cell Z72.out 3).trans rfl
         have Z82 := blk_frozen Z72.out 3
         have Z83 : Z66.cell? ⟨Z65, 4, none⟩ = some (.int .i64 0) := (blk_cell Z72.out 4).trans rfl
         have Z84 := blk_frozen Z72.out 4
         refine skip_ (w1 := ?_) (by rfl) rfl ?_ ?_
         rotate_left
         ·go_simp
          rfl
         refine hK.out _ _ ⟨cg hHeld.1 Z47, cg hHeld.2.1 Z46, cg hHeld.2.2.1 Z61, cg hHeld.2.2.2 Z60⟩ (fun hHeld => ?_)
         clear hK K
         refine pu 14 7 (bl 15 32767) ?_
         refine done_ (done_of HT_.out (by kernel_rfl)) ?_
         try go_wp2
         go_roundg Z23
         case measure => have := Z16.out; have := Z22.out; omega
         case rel => exact ⟨_, _, rs, H', ⟨by have := Z16.out; have := Z22.out; omega⟩, ⟨by (with_reducible repeat (first | apply Kd.R_alloc | apply Kd.R_drewN | apply Kd.R_drew)); exact Kd.R_mono (rf (Kd.R_mono Z17.out (fun k_ hk => (⟨hk, hk⟩ : _ ∧ k_ ≠ Z65)))) (fun _ hk => trivial)⟩, ⟨bq⟩⟩
       ·have H' := ra H; clear H
        go_wp2
        go_roundg Z23
        case measure => have := Z16.out; have := Z22.out; omega
        case rel => exact ⟨_, _, rs, H', ⟨by have := Z16.out; have := Z22.out; omega⟩, ⟨rq Z17⟩, ⟨bq⟩⟩
    ·obtain rfl := Option.some.inj H
     go_wp2
     go_ret
     exact ⟨_, re, rq Z17, bq⟩
 ·obtain rfl := Option.some.inj H
  go_enter Tryz.func22, Tryz.ntmps22
  go_wp2_with (first | ((with_reducible refine gd 8 rfl ?_); refine Kd.R_lit k70 _ 70 ?hg (N := 8) ?hd (xs := ([] : List (S70))) (inner := []) (ok := fun _ => True) (okp := fun _ => True) ?hr ?hp (fun _ hk => hk) trivial (Below.refl _ _) (Nat.le_refl _) (by simp) ?_; (case hd => rfl); (case hg => rfl); (case hr => first | (go_simp; done) | (go_simp; rfl)); (case hp => exact (Reps.none _ _)); intro Z9 Z10 Z11 hb hg_ hnew_; clear hg_ hnew_; (first | rw [← Z5.out] at Z11 | (simp only [Int.reduceToNat] at Z11; rw [← Z5.out] at Z11)); have Z12 := ra (Kd.R_lower Z11 (below_size bq)); replace HB := bs hb; clear hb Z11) | ((with_reducible refine gc 48 rfl ?_); refine gy (some 10) Tryz.func48 (spec_ProbeSkyOk.calls _ _ _ _ _ _ (sc Z2) Z3.out Z7.out) ?_; rintro Z13 hb; replace Z12 := ra (Kd.R_below (rq Z12) hb); replace HB := bs hb; clear hb))
  go_ret
  exact ⟨_, re, rq Z12, bq⟩
def spec_l7Clash.T1 : Bool × List (List Nat × List Nat) := (true, [([], []), ([0], [0]), ([1], [1]), ([], []), ([3], [3]), ([2, 4], [2, 4]), ([5], [5]), ([], []), ([7], [7]), ([8], [8]), ([6, 9], [6, 9]), ([10], [10]), ([], []), ([12], [12]), ([13, 9], [13]), ([11, 14], [11, 14]), ([15], [15]), ([], []), ([17], [17]), ([18, 14], [18]), ([16, 19], [16, 19]), ([20, 19, 0, 1, 2, 3, 4, 5, 6, 7, 8, 9, 10, 11, 12, 13, 14, 15, 16, 17, 18, 19, 20], [20])])
def spec_l7Clash.B1 : List Nat := [0, 1, 3, 0, 8, 31, 63, 0, 128, 384, 1023, 2047, 0, 4096, 13184, 32767, 65535, 0, 131072, 422784, 1048575, 2097151]
theorem spec_l7Clash.tab1 : rtab .any (opsOf Tryz.f47 1) = spec_l7Clash.T1 := by kernel_rfl
theorem spec_l7Clash.bits1 : waitsOk spec_l7Clash.T1.2 spec_l7Clash.B1 = true := by kernel_rfl
theorem spec_l7Clash.calls (k : Nat) (a0_0 a0_1 : ByteArray) (a0_2 a0_3 a0_4 : Int) (r : ByteArray) (w : World) (h : spec_l7Clash.f k a0_0 a0_1 a0_2 a0_3 a0_4 = some r) :
  Calls Tryz.prog 47 #[.agg #[.string a0_0, .string a0_1, .int .i64 a0_2, .int .i64 a0_3, .int .i64 a0_4]] w fun e w' => e = .returned (.string r) ∧ Below w.heap.size w w' := by
 have Z0 := Tryz.underlying70
 have HB := ra (Below.refl w.heap.size w)
 have H := h; unfold spec_l7Clash.f at H
 clear h
 by_cases Z1 : a0_0.size + 1 ≤ 9223372036854775807
 ·rw [if_pos Z1] at H
  have Z2 := eq_true Z1
  have Z3 : decide (a0_0.size + 1 ≤ 9223372036854775807) = true := decide_eq_true Z1
  try have Z4 : (9223372036854775807 < a0_0.size + 1) = False := eq_false (Nat.not_lt.2 Z1)
  by_cases Z5 : (a0_0 ++ (⟨#[47]⟩ : ByteArray)).size + a0_1.size ≤ 9223372036854775807
  ·rw [if_pos Z5] at H
   have Z6 := eq_true Z5
   have Z7 : decide ((a0_0 ++ (⟨#[47]⟩ : ByteArray)).size + a0_1.size ≤ 9223372036854775807) = true := decide_eq_true Z5
   try have Z8 : (9223372036854775807 < (a0_0 ++ (⟨#[47]⟩ : ByteArray)).size + a0_1.size) = False := eq_false (Nat.not_lt.2 Z5)
   try have Z9 : (9223372036854775807 < a0_0.size + 1 + a0_1.size) = False := by (have t_ := Z8; simp only [ByteArray.size_append] at t_; exact t_)
   by_cases Z10 : ((a0_0 ++ (⟨#[47]⟩ : ByteArray)) ++ a0_1).size + 1 ≤ 9223372036854775807
   ·rw [if_pos Z10] at H
    have Z11 := eq_true Z10
    have Z12 : decide (((a0_0 ++ (⟨#[47]⟩ : ByteArray)) ++ a0_1).size + 1 ≤ 9223372036854775807) = true := decide_eq_true Z10
    try have Z13 : (9223372036854775807 < ((a0_0 ++ (⟨#[47]⟩ : ByteArray)) ++ a0_1).size + 1) = False := eq_false (Nat.not_lt.2 Z10)
    try have Z14 : (9223372036854775807 < a0_0.size + 1 + a0_1.size + 1) = False := by (have t_ := Z13; simp only [ByteArray.size_append] at t_; exact t_)
    obtain ⟨Z15, Z16, H⟩ := bo H
    by_cases Z17 : (((a0_0 ++ (⟨#[47]⟩ : ByteArray)) ++ a0_1) ++ (⟨#[64]⟩ : ByteArray)).size + Z15.size ≤ 9223372036854775807
    ·rw [if_pos Z17] at H
     have Z18 := eq_true Z17
     have Z19 : decide ((((a0_0 ++ (⟨#[47]⟩ : ByteArray)) ++ a0_1) ++ (⟨#[64]⟩ : ByteArray)).size + Z15.size ≤ 9223372036854775807) = true := decide_eq_true Z17
     try have Z20 : (9223372036854775807 < (((a0_0 ++ (⟨#[47]⟩ : ByteArray)) ++ a0_1) ++ (⟨#[64]⟩ : ByteArray)).size + Z15.size) = False := eq_false (Nat.not_lt.2 Z17)
     try have Z21 : (9223372036854775807 < a0_0.size + 1 + a0_1.size + 1 + Z15.size) = False := by (have t_ := Z20; simp only [ByteArray.size_append] at t_; exact t_)
     by_cases Z22 : ((((a0_0 ++ (⟨#[47]⟩ : ByteArray)) ++ a0_1) ++ (⟨#[64]⟩ : ByteArray)) ++ Z15).size + 1 ≤ 9223372036854775807
     ·rw [if_pos Z22] at H
      have Z23 := eq_true Z22
      have Z24 : decide (((((a0_0 ++ (⟨#[47]⟩ : ByteArray)) ++ a0_1) ++ (⟨#[64]⟩ : ByteArray)) ++ Z15).size + 1 ≤ 9223372036854775807) = true := decide_eq_true Z22
      try have Z25 : (9223372036854775807 < ((((a0_0 ++ (⟨#[47]⟩ : ByteArray)) ++ a0_1) ++ (⟨#[64]⟩ : ByteArray)) ++ Z15).size + 1) = False := eq_false (Nat.not_lt.2 Z22)
      try have Z26 : (9223372036854775807 < a0_0.size + 1 + a0_1.size + 1 + Z15.size + 1) = False := by (have t_ := Z25; simp only [ByteArray.size_append] at t_; exact t_)
      obtain ⟨Z27, Z28, H⟩ := bo H
      by_cases Z29 : (((((a0_0 ++ (⟨#[47]⟩ : ByteArray)) ++ a0_1) ++ (⟨#[64]⟩ : ByteArray)) ++ Z15) ++ (⟨#[58]⟩ : ByteArray)).size + Z27.size ≤ 9223372036854775807
      ·rw [if_pos Z29] at H
       have Z30 := eq_true Z29
       have Z31 : decide ((((((a0_0 ++ (⟨#[47]⟩ : ByteArray)) ++ a0_1) ++ (⟨#[64]⟩ : ByteArray)) ++ Z15) ++ (⟨#[58]⟩ : ByteArray)).size + Z27.size ≤ 9223372036854775807) = true := decide_eq_true Z29
       try have Z32 : (9223372036854775807 < (((((a0_0 ++ (⟨#[47]⟩ : ByteArray)) ++ a0_1) ++ (⟨#[64]⟩ : ByteArray)) ++ Z15) ++ (⟨#[58]⟩ : ByteArray)).size + Z27.size) = False := eq_false (Nat.not_lt.2 Z29)
       try have Z33 : (9223372036854775807 < a0_0.size + 1 + a0_1.size + 1 + Z15.size + 1 + Z27.size) = False := by (have t_ := Z32; simp only [ByteArray.size_append] at t_; exact t_)
       by_cases Z34 : ((((((a0_0 ++ (⟨#[47]⟩ : ByteArray)) ++ a0_1) ++ (⟨#[64]⟩ : ByteArray)) ++ Z15) ++ (⟨#[58]⟩ : ByteArray)) ++ Z27).size + 1 ≤ 9223372036854775807
       ·rw [if_pos Z34] at H
        have Z35 := eq_true Z34
        have Z36 : decide (((((((a0_0 ++ (⟨#[47]⟩ : ByteArray)) ++ a0_1) ++ (⟨#[64]⟩ : ByteArray)) ++ Z15) ++ (⟨#[58]⟩ : ByteArray)) ++ Z27).size + 1 ≤ 9223372036854775807) = true := decide_eq_true Z34
        try have Z37 : (9223372036854775807 < ((((((a0_0 ++ (⟨#[47]⟩ : ByteArray)) ++ a0_1) ++ (⟨#[64]⟩ : ByteArray)) ++ Z15) ++ (⟨#[58]⟩ : ByteArray)) ++ Z27).size + 1) = False := eq_false (Nat.not_lt.2 Z34)
        try have Z38 : (9223372036854775807 < a0_0.size + 1 + a0_1.size + 1 + Z15.size + 1 + Z27.size + 1) = False := by (have t_ := Z37; simp only [ByteArray.size_append] at t_; exact t_)
        obtain ⟨Z39, Z40, H⟩ := bo H
        by_cases Z41 : (((((((a0_0 ++ (⟨#[47]⟩ : ByteArray)) ++ a0_1) ++ (⟨#[64]⟩ : ByteArray)) ++ Z15) ++ (⟨#[58]⟩ : ByteArray)) ++ Z27) ++ (⟨#[44]⟩ : ByteArray)).size + Z39.size ≤ 9223372036854775807
        ·rw [if_pos Z41] at H
         have Z42 := eq_true Z41
         have Z43 : decide ((((((((a0_0 ++ (⟨#[47]⟩ : ByteArray)) ++ a0_1) ++ (⟨#[64]⟩ : ByteArray)) ++ Z15) ++ (⟨#[58]⟩ : ByteArray)) ++ Z27) ++ (⟨#[44]⟩ : ByteArray)).size + Z39.size ≤ 9223372036854775807) = true := decide_eq_true Z41
         try have Z44 : (9223372036854775807 < (((((((a0_0 ++ (⟨#[47]⟩ : ByteArray)) ++ a0_1) ++ (⟨#[64]⟩ : ByteArray)) ++ Z15) ++ (⟨#[58]⟩ : ByteArray)) ++ Z27) ++ (⟨#[44]⟩ : ByteArray)).size + Z39.size) = False := eq_false (Nat.not_lt.2 Z41)
         try have Z45 : (9223372036854775807 < a0_0.size + 1 + a0_1.size + 1 + Z15.size + 1 + Z27.size + 1 + Z39.size) = False := by (have t_ := Z44; simp only [ByteArray.size_append] at t_; exact t_)
         obtain rfl := Option.some.inj H
         go_enter Tryz.func47, Tryz.ntmps47
         try go_wp2_with (first | ((with_reducible refine gd 1 rfl ?_); refine bd 1 #[.string a0_0, .string a0_1, .int .i64 a0_2, .int .i64 a0_3, .int .i64 a0_4] 70 ?_; intro Z46 Z47 HB Z48 Z49))
         have _ := ra (blk_drew Z48.out)
         have _ := ra (below_drew1 HB.out)
         clear Z48 HB
         rename_i Z48 HB
         refine start_ (n := 22) (S := fun w' => w'.cell? ⟨Z46, 0, none⟩ = some (.string a0_0) ∧ w'.cell? ⟨Z46, 1, none⟩ = some (.string a0_1) ∧ w'.cell? ⟨Z46, 2, none⟩ = some (.int .i64 a0_2) ∧ w'.cell? ⟨Z46, 3, none⟩ = some (.int .i64 a0_3) ∧ w'.cell? ⟨Z46, 4, none⟩ = some (.int .i64 a0_4)) (ds := []) (bl 22 0) (by kernel_rfl) rfl rfl ⟨(blk_cell Z48.out 0).trans rfl, (blk_cell Z48.out 1).trans rfl, (blk_cell Z48.out 2).trans rfl, (blk_cell Z48.out 3).trans rfl, (blk_cell Z48.out 4).trans rfl⟩ (fun hHeld => ?_); refine with_tabW spec_l7Clash.tab1 spec_l7Clash.bits1 (fun HT_ HW_ => ?_)
         generalize Z47.drew = Z50 at Z48 HB hHeld ⊢
         refine pu 0 3 (bl 22 1) ?_
         refine pu 3 6 (bl 22 9) ?_
         refine pu 7 10 (bl 22 137) ?_
         refine pu 12 15 (bl 22 4233) ?_
         refine pu 17 20 (bl 22 135305) ?_
         refine tk 1 4 (bl 22 135307) ?_ hHeld
         refine pu 2 5 (bl 22 135311) ?_
         refine tk 4 7 (bl 22 135327) ?_ hHeld
         refine pu 5 8 (bl 22 135359) ?_
         refine pu 6 9 (bl 22 135423) ?_
         refine tk 8 11 (bl 22 135679) ?_ hHeld
         refine tk 13 16 (bl 22 143871) ?_ hHeld
         refine tk 18 21 (bl 22 406015) ?_ hHeld
         refine oe 9 12 (bl 22 406527) (fun K hK => ?_)
         refine gs Tryz.func15 #[.int .i64 a0_2] ?_
         with_reducible refine (spec_l7Dec.calls k a0_2 Z15 _ Z16.out).mono ?_
         rintro e Z51 ⟨rfl, hb⟩
         refine ⟨_, rfl, ?_⟩
         have _ := bb (bk Z48) hb
         have _ := bs hb
         clear Z48 HB
         rename_i Z48 HB
         (try clear hb)
         refine hK.out _ _ ⟨(blk_cell Z48.out 0).trans rfl, (blk_cell Z48.out 1).trans rfl, (blk_cell Z48.out 2).trans rfl, (blk_cell Z48.out 3).trans rfl, (blk_cell Z48.out 4).trans rfl⟩ (fun hHeld => ?_)
         clear hK K
         refine nm 12 ?_
         refine pu 10 13 (bl 22 407551) ?_
         refine pu 11 14 (bl 22 409599) ?_
         refine oe 14 17 (bl 22 425983) (fun K hK => ?_)
         refine gs Tryz.func15 #[.int .i64 a0_3] ?_
         with_reducible refine (spec_l7Dec.calls k a0_3 Z27 _ Z28.out).mono ?_
         rintro e Z52 ⟨rfl, hb⟩
         refine ⟨_, rfl, ?_⟩
         have _ := bb (bk Z48) hb
         have _ := bs hb
         clear Z48 HB
         rename_i Z48 HB
         (try clear hb)
         refine hK.out _ _ ⟨(blk_cell Z48.out 0).trans rfl, (blk_cell Z48.out 1).trans rfl, (blk_cell Z48.out 2).trans rfl, (blk_cell Z48.out 3).trans rfl, (blk_cell Z48.out 4).trans rfl⟩ (fun hHeld => ?_)
         clear hK K
         refine nm 17 ?_
         refine pu 15 18 (bl 22 458751) ?_
         refine pu 16 19 (bl 22 524287) ?_
         refine oe 19 22 (bl 22 1048575) (fun K hK => ?_)
         refine gs Tryz.func15 #[.int .i64 a0_4] ?_
         with_reducible refine (spec_l7Dec.calls k a0_4 Z39 _ Z40.out).mono ?_
         rintro e Z53 ⟨rfl, hb⟩
         refine ⟨_, rfl, ?_⟩
         have _ := bb (bk Z48) hb
         have _ := bs hb
         clear Z48 HB
         rename_i Z48 HB
         (try clear hb)
         refine hK.out _ _ ⟨(blk_cell Z48.out 0).trans rfl, (blk_cell Z48.out 1).trans rfl, (blk_cell Z48.out 2).trans rfl, (blk_cell Z48.out 3).trans rfl, (blk_cell Z48.out 4).trans rfl⟩ (fun hHeld => ?_)
         clear hK K
         refine nm 22 ?_
         refine pu 20 23 (bl 22 2097151) ?_
         refine pu 21 2 (bl 22 4194303) ?_
         refine done_ (done_of HT_.out (by kernel_rfl)) ?_
         try go_wp2
         go_ret
         exact ⟨re, bq⟩
        ·rw [if_neg Z41] at H
         exact absurd H (by simp)
       ·rw [if_neg Z34] at H
        exact absurd H (by simp)
      ·rw [if_neg Z29] at H
       exact absurd H (by simp)
     ·rw [if_neg Z22] at H
      exact absurd H (by simp)
    ·rw [if_neg Z17] at H
     exact absurd H (by simp)
   ·rw [if_neg Z10] at H
    exact absurd H (by simp)
  ·rw [if_neg Z5] at H
   exact absurd H (by simp)
 ·rw [if_neg Z1] at H
  exact absurd H (by simp)
theorem spec_l7Clashes.calls (k : Nat) (A0 : Option Addr) (c0 : Nat) (l0 : List (S70)) (r : ByteArray) (w : World) (hr0 : Kd.C k70 w A0 l0.length l0) (hc0 : l0.length ≤ c0) (h : spec_l7Clashes.f k l0 = some r) :
  Calls Tryz.prog 21 #[.slice A0 l0.length c0] w fun e w' => e = .returned (.string r) ∧ Below w.heap.size w w' := by
 have Z0 := Tryz.underlying70
 have Z1 := ra hr0
 have Z2 := ra hc0
 clear hr0 hc0
 have HB := ra (Below.refl w.heap.size w)
 have H := h; unfold spec_l7Clashes.f at H
 clear h
 have H' := ra H; clear H
 go_enter Tryz.func21, Tryz.ntmps21
 go_wp2
 go_loopg [3, 4] k (fun kq v3 v4 w' => ∃ (x3_1 : ByteArray) (x4_1 : Int), v3 = .string x3_1 ∧ v4 = .int .i64 x4_1 ∧ Aside0 (spec_l7Clashes.l0 kq l0 x3_1 x4_1 = some r) ∧ Aside0 (kq ≤ k) ∧ Aside0 (Below w.heap.size w w'))
 case atStart => exact ⟨((⟨#[]⟩ : ByteArray)), (0), rs, rs, H', ⟨Nat.le_refl _⟩, ⟨bq⟩⟩
 case round =>
  clear H'
  obtain ⟨Z3, Z4, rfl, rfl, HA, Z5, HB⟩ := hrel
  cases gk with
  | zero => exact absurd HA.out (by simp [spec_l7Clashes.l0])
  | succ Z6 =>
   have H := HA.out
   clear HA
   simp only [spec_l7Clashes.l0] at H
   rcases td H with ⟨Z7, H⟩ | ⟨Z7, H⟩
   ·rcases td H with ⟨Z8, H⟩ | ⟨Z8, H⟩
    ·by_cases Z9 : Z3.size + 1 ≤ 9223372036854775807
     ·rw [if_pos Z9] at H
      have Z10 := eq_true Z9
      have Z11 : decide (Z3.size + 1 ≤ 9223372036854775807) = true := decide_eq_true Z9
      try have Z12 : (9223372036854775807 < Z3.size + 1) = False := eq_false (Nat.not_lt.2 Z9)
      obtain ⟨Z13, H⟩ := tn H
      obtain ⟨Z14, Z15, H⟩ := bo H
      by_cases Z16 : (Z3 ++ (⟨#[32]⟩ : ByteArray)).size + Z14.size ≤ 9223372036854775807
      ·rw [if_pos Z16] at H
       have Z17 := eq_true Z16
       have Z18 : decide ((Z3 ++ (⟨#[32]⟩ : ByteArray)).size + Z14.size ≤ 9223372036854775807) = true := decide_eq_true Z16
       try have Z19 : (9223372036854775807 < (Z3 ++ (⟨#[32]⟩ : ByteArray)).size + Z14.size) = False := eq_false (Nat.not_lt.2 Z16)
       try have Z20 : (9223372036854775807 < Z3.size + 1 + Z14.size) = False := by (have t_ := Z19; simp only [ByteArray.size_append] at t_; exact t_)
       have H' := ra H; clear H
       have Z21 : 0 ≤ (Z4 : Int) := od
       have Z22 : Z4 < (l0.length : Int) := od
       obtain ⟨Z23, Z24, Z25, Z26, Z27, Z28, Z29⟩ := at_T70 Z1.out Z4 Z21 Z22
       cases Z24
       replace Z25 := hc HB Z25
       replace Z26 := hc HB Z26
       replace Z27 := hc HB Z27
       replace Z28 := hc HB Z28
       replace Z29 := hc HB Z29
       replace Z21 := eq_true Z21
       replace Z22 := eq_true Z22
       go_wp2_with (first | ((with_reducible refine gc 47 rfl ?_); refine gy (some 20) Tryz.func47 (spec_l7Clash.calls _ _ _ _ _ _ _ _ Z15.out) ?_; rintro Z30 hb; replace HB := bs hb; clear hb))
       go_roundg Z6
       case measure => have := Z5.out; omega
       case rel => exact ⟨((Z3 ++ (⟨#[32]⟩ : ByteArray)) ++ Z14), (wrap64 (Z4 + 1)), rs, rs, H', ⟨by have := Z5.out; omega⟩, ⟨bq⟩⟩
      ·rw [if_neg Z16] at H
       exact absurd H (by simp)
     ·rw [if_neg Z9] at H
      exact absurd H (by simp)
    ·obtain ⟨Z9, H⟩ := tn H
     obtain ⟨Z10, Z11, H⟩ := bo H
     by_cases Z12 : Z3.size + Z10.size ≤ 9223372036854775807
     ·rw [if_pos Z12] at H
      have Z13 := eq_true Z12
      have Z14 : decide (Z3.size + Z10.size ≤ 9223372036854775807) = true := decide_eq_true Z12
      try have Z15 : (9223372036854775807 < Z3.size + Z10.size) = False := eq_false (Nat.not_lt.2 Z12)
      have H' := ra H; clear H
      have Z16 : 0 ≤ (Z4 : Int) := od
      have Z17 : Z4 < (l0.length : Int) := od
      obtain ⟨Z18, Z19, Z20, Z21, Z22, Z23, Z24⟩ := at_T70 Z1.out Z4 Z16 Z17
      cases Z19
      replace Z20 := hc HB Z20
      replace Z21 := hc HB Z21
      replace Z22 := hc HB Z22
      replace Z23 := hc HB Z23
      replace Z24 := hc HB Z24
      replace Z16 := eq_true Z16
      replace Z17 := eq_true Z17
      go_wp2_with (first | ((with_reducible refine gc 47 rfl ?_); refine gy (some 20) Tryz.func47 (spec_l7Clash.calls _ _ _ _ _ _ _ _ Z11.out) ?_; rintro Z25 hb; replace HB := bs hb; clear hb))
      go_roundg Z6
      case measure => have := Z5.out; omega
      case rel => exact ⟨(Z3 ++ Z10), (wrap64 (Z4 + 1)), rs, rs, H', ⟨by have := Z5.out; omega⟩, ⟨bq⟩⟩
     ·rw [if_neg Z12] at H
      exact absurd H (by simp)
   ·rcases ed H with ⟨-, Z8, Z9, H⟩ | ⟨-, Z8, Z9, H⟩
    ·obtain rfl := Option.some.inj H
     go_wp2
     go_ret
     exact ⟨re, bq⟩
    ·obtain rfl := Option.some.inj H
     go_wp2
     go_ret
     exact ⟨re, bq⟩
def spec_l4With.T5 : Bool × List (List Nat × List Nat) := (true, [([], []), ([], []), ([], []), ([1, 2], [1, 2]), ([3], [3]), ([0, 4], [0, 4]), ([5], [5]), ([6], [6]), ([6], [6]), ([], []), ([9, 7, 5, 0, 1, 2, 3, 4, 5, 6, 7, 9], [7, 9]), ([8, 10, 0, 1, 2, 3, 4, 5, 6, 7, 8, 9, 10], [8])])
def spec_l4With.B5 : List Nat := [0, 0, 0, 6, 14, 31, 63, 127, 127, 0, 767, 2047]
theorem spec_l4With.tab5 : rtab .any (opsOf Tryz.f51 5) = spec_l4With.T5 := by kernel_rfl
theorem spec_l4With.bits5 : waitsOk spec_l4With.T5.2 spec_l4With.B5 = true := by kernel_rfl
def spec_l4With.T6 : Bool × List (List Nat × List Nat) := (true, [([], []), ([0], [0]), ([1], [1]), ([1], [1]), ([2, 3, 1], [1, 2, 3]), ([4, 1], [1, 4]), ([5, 1], [1, 5]), ([1], [1]), ([7, 1], [1, 7]), ([6, 8, 1], [1, 6, 8]), ([1, 9], [1, 9])])
def spec_l4With.B6 : List Nat := [0, 1, 3, 3, 15, 31, 63, 3, 131, 511, 1023]
theorem spec_l4With.tab6 : rtab .any (opsOf Tryz.f51 6) = spec_l4With.T6 := by kernel_rfl
theorem spec_l4With.bits6 : waitsOk spec_l4With.T6.2 spec_l4With.B6 = true := by kernel_rfl
theorem spec_l4With.calls (k : Nat) (A0 : Option Addr) (c0 : Nat) (l0 : List (S33)) (a1_0 : ByteArray) (A1_1 : Option Addr) (c1_1 : Nat) (l1_1 : List (S46)) (r : List (S70)) (w : World) (hr0 : Kd.C k33 w A0 l0.length l0) (hc0 : l0.length ≤ c0) (hr1_1 : Kd.C k46 w A1_1 l1_1.length l1_1) (hc1_1 : l1_1.length ≤ c1_1) (h : spec_l4With.f k l0 a1_0 l1_1 = some r) :
  Calls Tryz.prog 51 #[.slice A0 l0.length c0, .agg #[.string a1_0, .slice A1_1 l1_1.length c1_1]] w fun e w' => ∃ v0_ : Value, e = .returned (v0_) ∧ Kd.R k70 70 w' w.heap.size (fun _ => True) v0_ r ∧ Below w.heap.size w w' := by
 have Z0 := Tryz.underlying33
 have Z1 := Tryz.underlying70
 have Z2 := ra hr0
 have Z3 := ra hc0
 clear hr0 hc0
 have Z4 := ra hr1_1
 have Z5 := ra hc1_1
 clear hr1_1 hc1_1
 have HB := ra (Below.refl w.heap.size w)
 have H := h; unfold spec_l4With.f at H
 clear h
 obtain ⟨Z6, hy_⟩ : ∃ y_ : List (S70), y_ = (([] : List (S70))) := ⟨_, rfl⟩
 replace H : (spec_l4With.l0 k l0 Z6 0 a1_0 l1_1) = some r := yh
 have Z7 := ra hy_
 clear hy_
 have H' := ra H; clear H
 go_enter Tryz.func51, Tryz.ntmps51
 go_wp2_with (first | ((with_reducible refine gd 3 rfl ?_); refine bd 3 #[.string a1_0, .slice A1_1 l1_1.length c1_1] 33 ?_; intro Z8 Z9 HB Z10 Z11) | ((with_reducible refine gd 9 rfl ?_); refine Kd.R_lit k70 _ 70 ?hg (N := 9) ?hd (xs := ([] : List (S70))) (inner := []) (ok := fun _ => True) (okp := fun _ => True) ?hr ?hp (fun _ hk => hk) trivial (Below.refl _ _) (Nat.le_refl _) (by simp) ?_; (case hd => rfl); (case hg => rfl); (case hr => first | (go_simp; done) | (go_simp; rfl)); (case hp => exact (Reps.none _ _)); intro Z12 Z13 Z14 hb hg_ hnew_; clear hg_ hnew_; (first | rw [← Z7.out] at Z14 | (simp only [Int.reduceToNat] at Z14; rw [← Z7.out] at Z14)); have Z15 := ra (Kd.R_lower Z14 (below_size bq)); replace Z10 := bb (bk Z10) hb; replace HB := bs hb; clear hb Z14))
 go_loopg [5, 6] k (fun kq v5 v6 w' => ∃ (x5_1 : List (S70)) (x6_1 : Int), v6 = .int .i64 x6_1 ∧ Aside0 (spec_l4With.l0 kq l0 x5_1 x6_1 a1_0 l1_1 = some r) ∧ Aside0 (kq ≤ k) ∧ Aside0 (Kd.R k70 70 w' w.heap.size (fun _ => True) v5 x5_1) ∧ Aside0 (w'.heap[Z8]? = some (.cells #[.string a1_0, (.slice A1_1 l1_1.length c1_1)] 33 (0, 0))) ∧ Aside0 (Below w.heap.size w w'))
 case atStart => exact ⟨(Z6), (0), rs, H', ⟨Nat.le_refl _⟩, ⟨rq Z15⟩, ⟨bk Z10⟩, ⟨bq⟩⟩
 case round =>
  clear H'
  obtain ⟨Z16, Z17, rfl, HA, Z18, Z19, Z10, HB⟩ := hrel
  cases gk with
  | zero => exact absurd HA.out (by simp [spec_l4With.l0])
  | succ Z20 =>
   have H := HA.out
   clear HA
   simp only [spec_l4With.l0] at H
   rcases td H with ⟨Z21, H⟩ | ⟨Z21, H⟩
   ·obtain ⟨Z22, H⟩ := tn H
    obtain ⟨⟨Z23, Z24, Z25, Z26, Z27, Z28⟩, Z29, H⟩ := bo H
    try dsimp only at H
    rcases ud H with ⟨rfl, Z30⟩ | ⟨rfl, Z30⟩ <;> have H := Z30
    ·rcases ed H with ⟨-, Z31, Z32, H⟩ | ⟨-, Z31, Z32, H⟩
     ·have H' := ra H; clear H
      try go_wp2
      have _ := ra (Kd.R_drew Z19.out)
      have _ := ra (blk_drew Z10.out)
      have _ := ra (below_drew1 HB.out)
      clear Z19 Z10 HB
      rename_i Z19 Z10 HB
      have Z33 : 0 ≤ (Z17 : Int) := od
      have Z34 : Z17 < (l0.length : Int) := od
      obtain ⟨Z35, Z36, Z37, Z38, Z39, Z40, Z41, Z42⟩ := at_T33 Z2.out Z17 Z33 Z34
      have Z43 := Z40
      have Z44 := Z39
      cases Z38
      replace Z39 := hc HB Z39
      replace Z40 := hc HB Z40
      have Z45 := ra Z42
      have Z46 := ra Z41
      clear Z42 Z41
      replace Z33 := eq_true Z33
      replace Z34 := eq_true Z34
      refine start_ (n := 12) (S := fun w' => w'.cell? ⟨Z8, 0, none⟩ = some (.string a1_0) ∧ w'.cell? ⟨Z8, 1, none⟩ = some (.slice A1_1 l1_1.length c1_1) ∧ w'.cell? (Z35.add ((Z17).toNat * 2)) = some (.string ((rd_T33 l0 Z17).f0)) ∧ w'.cell? ⟨(Z35.add ((Z17).toNat * 2)).block, (Z35.add ((Z17).toNat * 2)).off + 1, none⟩ = some (.slice Z36 ((rd_T33 l0 Z17).f1).length Z37)) (ds := []) (bl 12 0) (by kernel_rfl) rfl rfl ⟨(blk_cell Z10.out 0).trans rfl, (blk_cell Z10.out 1).trans rfl, (hc HB Z44), (hc HB Z43)⟩ (fun hHeld => ?_); refine with_tabW spec_l4With.tab5 spec_l4With.bits5 (fun HT_ HW_ => ?_)
      generalize wr.drew = Z47 at Z19 Z10 HB Z45 Z39 Z40 hHeld ⊢
      refine pu 1 18 (bl 12 2) ?_
      refine pu 2 19 (bl 12 6) ?_
      refine pu 3 20 (bl 12 14) ?_
      refine tk 0 17 (bl 12 15) ?_ hHeld
      refine tk 4 21 (bl 12 31) ?_ hHeld
      refine join_ (σ := Nat) 2 #[true, true, true, true, true, true, true, true, true, true, false, false] (fun s_ => [(22, .tuple #[.agg #[.string Z23, .string Z24, .int .i64 Z25, .int .i64 Z26, .int .i64 Z27], .bool true]), (7, .pointer (some ⟨s_, 0, none⟩)), (16, .tuple #[.agg #[.string Z23, .string Z24, .int .i64 Z25, .int .i64 Z26, .int .i64 Z27], .bool true]), (23, .agg #[.string Z23, .string Z24, .int .i64 Z25, .int .i64 Z26, .int .i64 Z27]), (24, .bool true)]) (fun s_ w' => (w'.cell? ⟨Z8, 0, none⟩ = some (.string a1_0) ∧ w'.cell? ⟨Z8, 1, none⟩ = some (.slice A1_1 l1_1.length c1_1) ∧ w'.cell? (Z35.add ((Z17).toNat * 2)) = some (.string ((rd_T33 l0 Z17).f0)) ∧ w'.cell? ⟨(Z35.add ((Z17).toNat * 2)).block, (Z35.add ((Z17).toNat * 2)).off + 1, none⟩ = some (.slice Z36 ((rd_T33 l0 Z17).f1).length Z37)) ∧ (Kd.R k70 70 w' w.heap.size (fun k_ => k_ ≠ s_) u5 Z16) ∧ (w'.heap[Z8]? = some (.cells #[.string a1_0, .slice A1_1 l1_1.length c1_1] 33 (0, 0))) ∧ (w'.heap[s_]? = some (.cells #[.string (⟨#[]⟩ : ByteArray), .string (⟨#[]⟩ : ByteArray), .int .i64 0, .int .i64 0, .int .i64 0] 70 (0, 0))) ∧ (w.heap.size ≤ s_) ∧ (w.heap.size ≤ s_) ∧ (Z8 ≠ s_) ∧ (s_ ≠ Z8) ∧ (Below w.heap.size w w')) ?_ ?_
      rotate_left
      ·intro hCont
       refine two_ (i := 5) (j := 9) (Ni := some 22) (Nj := some 7) #[true, true, true, true, true, true, false, false, false, false, false, false] #[true, true, true, true, true, false, false, false, false, true, false, false] rfl rfl rfl rfl (two_of HT_.out (by kernel_rfl)) (by decide) (by decide) (fun K hK => ?_) (fun K hK => ?_)
       ·skip
        refine gs Tryz.func49 #[.agg #[.string a1_0, .slice A1_1 l1_1.length c1_1], .agg #[.string ((rd_T33 l0 Z17).f0), .slice Z36 ((rd_T33 l0 Z17).f1).length Z37]] ?_
        with_reducible refine (spec_l3Meet.calls Z20 a1_0 _ _ l1_1 ((rd_T33 l0 Z17).f0) _ _ ((rd_T33 l0 Z17).f1) Z23 Z24 Z25 Z26 Z27 true _ ?side1 ?side2 ?side3 ?side4 Z29.out).mono ?_
        (case side1 => exact sc Z4)
        (case side2 => exact Z5.out)
        (case side3 => exact sc Z45)
        (case side4 => exact Z46.out)
        rintro e Z48 ⟨rfl, hb⟩
        refine ⟨_, rfl, ?_⟩
        have _ := ra (Kd.R_below (rq Z19) hb)
        have _ := bb (bk Z10) hb
        have _ := bs hb
        clear Z19 Z10 HB
        rename_i Z19 Z10 HB
        (try clear hb)
        (try clear hk)
        refine hK.out _ _ ⟨(blk_cell Z10.out 0).trans rfl, (blk_cell Z10.out 1).trans rfl, (hc HB Z44), (hc HB Z43)⟩ (fun hHeld => ?_)
        clear hK K
        refine nm 22 ?_
        refine pu 6 16 (bl 12 127) ?_
        refine pu 7 23 (bl 12 255) ?_
        refine pu 8 24 (bl 12 511) ?_
        refine oe 9 7 (bl 12 1023) (fun K hK => ?_)
        refine box_step ?hg (N := 7) ?hd (cs := #[.string (⟨#[]⟩ : ByteArray), .string (⟨#[]⟩ : ByteArray), .int .i64 0, .int .i64 0, .int .i64 0]) (t := 70) ?hr ?_; (case hd => rfl); (case hg => rfl); (case hr => first | (go_simp; done) | (go_simp; rfl))
        intro Z49 hg Z50 hbox hb
        have _ := ra (Kd.R_below (Kd.R_elderB (rq Z19) Z49 (Nat.le_of_eq hg.symm)) hb)
        have _ := bb (bk Z10) hb
        have _ := bs hb
        have _ := ra (hbox)
        have _ := bz (w0 := w) hg
        have _ := bz (w0 := w) hg
        have _ := bn hg (bk Z10)
        have _ := bm hg (bk Z10)
        clear Z19 Z10 HB
        rename_i Z19 Z10 HB Z51 Z52 Z53 Z54 Z55
        clear hb hbox hg
        refine hK.out _ _ ⟨(blk_cell Z10.out 0).trans rfl, (blk_cell Z10.out 1).trans rfl, (hc HB Z44), (hc HB Z43)⟩ (fun hHeld => ?_)
        clear hK K
        refine nm 7 ?_
        exact norm_ (by simp only [putAll, Act.put, List.setIfInBounds_toArray, List.set_cons_zero, List.set_cons_succ]) (hCont (Z49) _ ⟨hHeld, (by (with_reducible repeat (first | apply Kd.R_alloc | apply Kd.R_drewN | apply Kd.R_drew)); exact Kd.R_mono Z19.out (fun _ hk => hk.2)), (bk Z10), (bk Z51), Z52.out, Z53.out, Z54.out, Z55.out, bq⟩)
       ·skip
        refine box_step ?hg (N := 7) ?hd (cs := #[.string (⟨#[]⟩ : ByteArray), .string (⟨#[]⟩ : ByteArray), .int .i64 0, .int .i64 0, .int .i64 0]) (t := 70) ?hr ?_; (case hd => rfl); (case hg => rfl); (case hr => first | (go_simp; done) | (go_simp; rfl))
        intro Z48 hg Z49 hbox hb
        have _ := ra (Kd.R_below (Kd.R_elderB (rq Z19) Z48 (Nat.le_of_eq hg.symm)) hb)
        have _ := bb (bk Z10) hb
        have _ := bs hb
        have _ := ra (hbox)
        have _ := bz (w0 := w) hg
        have _ := bz (w0 := w) hg
        have _ := bn hg (bk Z10)
        have _ := bm hg (bk Z10)
        clear Z19 Z10 HB
        rename_i Z19 Z10 HB Z50 Z51 Z52 Z53 Z54
        clear hb hbox hg
        refine hK.out _ _ ⟨(blk_cell Z10.out 0).trans rfl, (blk_cell Z10.out 1).trans rfl, (hc HB Z44), (hc HB Z43)⟩ (fun hHeld => ?_)
        clear hK K
        refine nm 7 ?_
        refine oe 5 22 (bl 12 575) (fun K hK => ?_)
        refine gs Tryz.func49 #[.agg #[.string a1_0, .slice A1_1 l1_1.length c1_1], .agg #[.string ((rd_T33 l0 Z17).f0), .slice Z36 ((rd_T33 l0 Z17).f1).length Z37]] ?_
        with_reducible refine (spec_l3Meet.calls Z20 a1_0 _ _ l1_1 ((rd_T33 l0 Z17).f0) _ _ ((rd_T33 l0 Z17).f1) Z23 Z24 Z25 Z26 Z27 true _ ?side1 ?side2 ?side3 ?side4 Z29.out).mono ?_
        (case side1 => exact sc Z4)
        (case side2 => exact Z5.out)
        (case side3 => exact sc Z45)
        (case side4 => exact Z46.out)
        rintro e Z55 ⟨rfl, hb⟩
        refine ⟨_, rfl, ?_⟩
        have _ := ra (Kd.R_below (rq Z19) hb)
        have _ := bb (bk Z10) hb
        have _ := bb (bk Z50) hb
        have _ := bs hb
        clear Z19 Z10 Z50 HB
        rename_i Z19 Z10 Z50 HB
        (try clear hb)
        (try clear hk)
        refine hK.out _ _ ⟨(blk_cell Z10.out 0).trans rfl, (blk_cell Z10.out 1).trans rfl, (hc HB Z44), (hc HB Z43)⟩ (fun hHeld => ?_)
        clear hK K
        refine nm 22 ?_
        refine pu 6 16 (bl 12 639) ?_
        refine pu 7 23 (bl 12 767) ?_
        refine pu 8 24 (bl 12 1023) ?_
        exact norm_ (by simp only [putAll, Act.put, List.setIfInBounds_toArray, List.set_cons_zero, List.set_cons_succ]) (hCont (Z48) _ ⟨hHeld, (by (with_reducible repeat (first | apply Kd.R_alloc | apply Kd.R_drewN | apply Kd.R_drew)); exact Kd.R_mono Z19.out (fun _ hk => hk.2)), (bk Z10), (bk Z50), Z51.out, Z52.out, Z53.out, Z54.out, bq⟩)
      rintro Z48 Z49 ⟨hS_, Z50, Z51, Z52, Z53, Z54, Z55, Z56, Z57⟩
      have _ : Aside0 (Kd.R k70 70 Z49 w.heap.size (fun k_ => k_ ≠ Z48) u5 Z16) := ⟨Z50⟩
      have _ : Aside0 (Z49.heap[Z8]? = some (.cells #[.string a1_0, .slice A1_1 l1_1.length c1_1] 33 (0, 0))) := ⟨Z51⟩
      have _ : Aside0 (Z49.heap[Z48]? = some (.cells #[.string (⟨#[]⟩ : ByteArray), .string (⟨#[]⟩ : ByteArray), .int .i64 0, .int .i64 0, .int .i64 0] 70 (0, 0))) := ⟨Z52⟩
      have _ : Aside0 (w.heap.size ≤ Z48) := ⟨Z53⟩
      have _ : Aside0 (w.heap.size ≤ Z48) := ⟨Z54⟩
      have _ : Aside0 (Z8 ≠ Z48) := ⟨Z55⟩
      have _ : Aside0 (Z48 ≠ Z8) := ⟨Z56⟩
      have _ : Aside0 (Below w.heap.size w Z49) := ⟨Z57⟩
      clear Z19 Z10 HB
      clear Z50 Z51 Z52 Z53 Z54 Z55 Z56 Z57
      rename_i Z19 Z10 Z58 Z59 Z60 Z61 Z62 HB
      have hHeld : Z49.cell? ⟨Z8, 0, none⟩ = some (.string a1_0) ∧ Z49.cell? ⟨Z8, 1, none⟩ = some (.slice A1_1 l1_1.length c1_1) ∧ Z49.cell? (Z35.add ((Z17).toNat * 2)) = some (.string ((rd_T33 l0 Z17).f0)) ∧ Z49.cell? ⟨(Z35.add ((Z17).toNat * 2)).block, (Z35.add ((Z17).toNat * 2)).off + 1, none⟩ = some (.slice Z36 ((rd_T33 l0 Z17).f1).length Z37) := hS_
      refine norm_ (a' := ?_) ?_ ?_
      rotate_left
      ·simp only [putAll, Act.put, List.setIfInBounds_toArray, List.set_cons_zero, List.set_cons_succ]
       rfl
      refine one_ (i := 10) (N := none) #[true, true, true, true, true, true, true, true, true, true, true, false] rfl rfl (one_of HT_.out (by kernel_rfl)) (by decide) (fun K hK => ?_)
      have Z63 : Z49.cell? ⟨Z48, 0, none⟩ = some (.string (⟨#[]⟩ : ByteArray)) := (blk_cell Z58.out 0).trans rfl
      have Z64 := blk_frozen Z58.out 0
      have Z65 := Z61.out
      have Z66 := Z62.out
      have Z67 : Z49.cell? ⟨Z48, 1, none⟩ = some (.string (⟨#[]⟩ : ByteArray)) := (blk_cell Z58.out 1).trans rfl
      have Z68 := blk_frozen Z58.out 1
      have Z69 := Z61.out
      have Z70 := Z62.out
      have Z71 : Z49.cell? ⟨Z48, 2, none⟩ = some (.int .i64 0) := (blk_cell Z58.out 2).trans rfl
      have Z72 := blk_frozen Z58.out 2
      have Z73 := Z61.out
      have Z74 := Z62.out
      have Z75 : Z49.cell? ⟨Z48, 3, none⟩ = some (.int .i64 0) := (blk_cell Z58.out 3).trans rfl
      have Z76 := blk_frozen Z58.out 3
      have Z77 := Z61.out
      have Z78 := Z62.out
      have Z79 : Z49.cell? ⟨Z48, 4, none⟩ = some (.int .i64 0) := (blk_cell Z58.out 4).trans rfl
      have Z80 := blk_frozen Z58.out 4
      have Z81 := Z61.out
      have Z82 := Z62.out
      refine skip_ (w1 := ?_) (by rfl) rfl ?_ ?_
      rotate_left
      ·go_simp
       rfl
      refine hK.out _ _ ⟨cf hHeld.1, cf hHeld.2.1, cg hHeld.2.2.1 Z44, cg hHeld.2.2.2 Z43⟩ (fun hHeld => ?_)
      clear hK K
      refine pu 11 8 (bl 12 4095) ?_
      refine done_ (done_of HT_.out (by kernel_rfl)) ?_
      try go_wp2
      have Z83 : Aside0 (Kd.R k70 70 (((((Z49.setCell ⟨Z48, 0, none⟩ (.string Z23)).setCell ⟨Z48, 1, none⟩ (.string Z24)).setCell ⟨Z48, 2, none⟩ (.int .i64 Z25)).setCell ⟨Z48, 3, none⟩ (.int .i64 Z26)).setCell ⟨Z48, 4, none⟩ (.int .i64 Z27)) w.heap.size (fun k_ => k_ ≠ Z48) u5 Z16) := ⟨by (with_reducible repeat (first | apply Kd.R_alloc | apply Kd.R_drewN | apply Kd.R_drew)); exact Kd.R_mono (rf (Kd.R_mono Z19.out (fun k_ hk => (⟨hk, hk⟩ : _ ∧ k_ ≠ Z48)))) (fun _ hk => hk.1)⟩
      have Z84 : Aside0 ((((((Z49.setCell ⟨Z48, 0, none⟩ (.string Z23)).setCell ⟨Z48, 1, none⟩ (.string Z24)).setCell ⟨Z48, 2, none⟩ (.int .i64 Z25)).setCell ⟨Z48, 3, none⟩ (.int .i64 Z26)).setCell ⟨Z48, 4, none⟩ (.int .i64 Z27)).heap[Z8]? = some (.cells #[.string a1_0, .slice A1_1 l1_1.length c1_1] 33 (0, 0))) := ⟨bk Z10⟩
      have Z85 : Aside0 ((((((Z49.setCell ⟨Z48, 0, none⟩ (.string Z23)).setCell ⟨Z48, 1, none⟩ (.string Z24)).setCell ⟨Z48, 2, none⟩ (.int .i64 Z25)).setCell ⟨Z48, 3, none⟩ (.int .i64 Z26)).setCell ⟨Z48, 4, none⟩ (.int .i64 Z27)).heap[Z48]? = some (.cells #[.string Z23, .string Z24, .int .i64 Z25, .int .i64 Z26, .int .i64 Z27] 70 (0, 0))) := ⟨bp Z58⟩
      have Z86 : Aside0 (Below w.heap.size w (((((Z49.setCell ⟨Z48, 0, none⟩ (.string Z23)).setCell ⟨Z48, 1, none⟩ (.string Z24)).setCell ⟨Z48, 2, none⟩ (.int .i64 Z25)).setCell ⟨Z48, 3, none⟩ (.int .i64 Z26)).setCell ⟨Z48, 4, none⟩ (.int .i64 Z27))) := ⟨bq⟩
      (try clear Z19)
      (try clear Z10)
      (try clear Z58)
      (try clear HB)
      generalize (((((Z49.setCell ⟨Z48, 0, none⟩ (.string Z23)).setCell ⟨Z48, 1, none⟩ (.string Z24)).setCell ⟨Z48, 2, none⟩ (.int .i64 Z25)).setCell ⟨Z48, 3, none⟩ (.int .i64 Z26)).setCell ⟨Z48, 4, none⟩ (.int .i64 Z27)) = Z87 at Z83 Z84 Z85 Z86 ⊢
      have Z19 := Z83
      have Z10 := Z84
      have Z58 := Z85
      have HB := Z86
      clear Z83 Z84 Z85 Z86
      have _ := ra (Kd.R_drew Z19.out)
      have _ := ra (blk_drew Z10.out)
      have _ := ra (blk_drew Z58.out)
      have _ := ra (below_drew1 HB.out)
      clear Z19 Z10 Z58 HB
      rename_i Z19 Z10 Z58 HB
      have Z88 : 0 ≤ (Z17 : Int) := od
      have Z89 : Z17 < (l0.length : Int) := od
      obtain ⟨Z90, Z91, Z92, Z93, Z94, Z95, Z96, Z97⟩ := at_T33 Z2.out Z17 Z88 Z89
      have Z98 := Z95
      have Z99 := Z94
      obtain rfl : Z35 = Z90 := (by injection Z93)
      replace Z94 := hc HB Z94
      replace Z95 := hc HB Z95
      have Z100 := ra Z97
      have Z101 := ra Z96
      clear Z97 Z96
      replace Z88 := eq_true Z88
      replace Z89 := eq_true Z89
      refine start_ (n := 11) (S := fun w' => w'.cell? ⟨Z8, 0, none⟩ = some (.string a1_0) ∧ w'.cell? ⟨Z8, 1, none⟩ = some (.slice A1_1 l1_1.length c1_1) ∧ w'.cell? (Z35.add ((Z17).toNat * 2)) = some (.string ((rd_T33 l0 Z17).f0)) ∧ w'.cell? ⟨(Z35.add ((Z17).toNat * 2)).block, (Z35.add ((Z17).toNat * 2)).off + 1, none⟩ = some (.slice Z91 ((rd_T33 l0 Z17).f1).length Z92)) (ds := []) (bl 11 0) (by kernel_rfl) rfl rfl ⟨(blk_cell Z10.out 0).trans rfl, (blk_cell Z10.out 1).trans rfl, (hc HB Z99), (hc HB Z98)⟩ (fun hHeld => ?_); refine with_tabW spec_l4With.tab6 spec_l4With.bits6 (fun HT_ HW_ => ?_)
      generalize Z87.drew = Z102 at Z19 Z10 Z58 HB Z100 Z94 Z95 hHeld ⊢
      refine pu 0 25 (bl 11 1) ?_
      refine pu 1 26 (bl 11 3) ?_
      refine pu 2 27 (bl 11 7) ?_
      refine pu 3 28 (bl 11 15) ?_
      refine pu 4 29 (bl 11 31) ?_
      refine pu 5 30 (bl 11 63) ?_
      refine pu 7 32 (bl 11 191) ?_
      refine tk 6 31 (bl 11 255) ?_ hHeld
      refine tk 8 33 (bl 11 511) ?_ hHeld
      refine pu 9 34 (bl 11 1023) ?_
      refine pu 10 35 (bl 11 2047) ?_
      refine done_ (done_of HT_.out (by kernel_rfl)) ?_
      try go_wp2
      go_roundg Z20
      case measure => have := Z18.out; omega
      case rel => exact ⟨_, _, rs, H', ⟨by have := Z18.out; omega⟩, ⟨by (with_reducible repeat (first | apply Kd.R_alloc | apply Kd.R_drewN | apply Kd.R_drew)); exact Kd.R_mono Z19.out (fun _ hk => trivial)⟩, ⟨bk Z10⟩, ⟨bq⟩⟩
     ·by_cases Z33 : Z16.length < 2513169434916
      ·rw [if_pos Z33] at H
       have Z34 := ra Z33; clear Z33
       obtain ⟨Z35, hy_⟩ : ∃ y_ : List (S70), y_ = (Z16 ++ [(⟨Z23, Z24, Z25, Z26, Z27⟩ : S70)]) := ⟨_, rfl⟩
       replace H : (spec_l4With.l0 Z20 l0 Z35 (wrap64 (Z17 + 1)) a1_0 l1_1) = some r := yh
       have Z36 := ra hy_
       clear hy_
       have H' := ra H; clear H
       try go_wp2
       have _ := ra (Kd.R_drew Z19.out)
       have _ := ra (blk_drew Z10.out)
       have _ := ra (below_drew1 HB.out)
       clear Z19 Z10 HB
       rename_i Z19 Z10 HB
       have Z37 : 0 ≤ (Z17 : Int) := od
       have Z38 : Z17 < (l0.length : Int) := od
       obtain ⟨Z39, Z40, Z41, Z42, Z43, Z44, Z45, Z46⟩ := at_T33 Z2.out Z17 Z37 Z38
       have Z47 := Z44
       have Z48 := Z43
       cases Z42
       replace Z43 := hc HB Z43
       replace Z44 := hc HB Z44
       have Z49 := ra Z46
       have Z50 := ra Z45
       clear Z46 Z45
       replace Z37 := eq_true Z37
       replace Z38 := eq_true Z38
       refine start_ (n := 12) (S := fun w' => w'.cell? ⟨Z8, 0, none⟩ = some (.string a1_0) ∧ w'.cell? ⟨Z8, 1, none⟩ = some (.slice A1_1 l1_1.length c1_1) ∧ w'.cell? (Z39.add ((Z17).toNat * 2)) = some (.string ((rd_T33 l0 Z17).f0)) ∧ w'.cell? ⟨(Z39.add ((Z17).toNat * 2)).block, (Z39.add ((Z17).toNat * 2)).off + 1, none⟩ = some (.slice Z40 ((rd_T33 l0 Z17).f1).length Z41)) (ds := []) (bl 12 0) (by kernel_rfl) rfl rfl ⟨(blk_cell Z10.out 0).trans rfl, (blk_cell Z10.out 1).trans rfl, (hc HB Z48), (hc HB Z47)⟩ (fun hHeld => ?_); refine with_tabW spec_l4With.tab5 spec_l4With.bits5 (fun HT_ HW_ => ?_)
       generalize wr.drew = Z51 at Z19 Z10 HB Z49 Z43 Z44 hHeld ⊢
       refine pu 1 18 (bl 12 2) ?_
       refine pu 2 19 (bl 12 6) ?_
       refine pu 3 20 (bl 12 14) ?_
       refine tk 0 17 (bl 12 15) ?_ hHeld
       refine tk 4 21 (bl 12 31) ?_ hHeld
       refine join_ (σ := Nat) 2 #[true, true, true, true, true, true, true, true, true, true, false, false] (fun s_ => [(22, .tuple #[.agg #[.string Z23, .string Z24, .int .i64 Z25, .int .i64 Z26, .int .i64 Z27], .bool true]), (7, .pointer (some ⟨s_, 0, none⟩)), (16, .tuple #[.agg #[.string Z23, .string Z24, .int .i64 Z25, .int .i64 Z26, .int .i64 Z27], .bool true]), (23, .agg #[.string Z23, .string Z24, .int .i64 Z25, .int .i64 Z26, .int .i64 Z27]), (24, .bool true)]) (fun s_ w' => (w'.cell? ⟨Z8, 0, none⟩ = some (.string a1_0) ∧ w'.cell? ⟨Z8, 1, none⟩ = some (.slice A1_1 l1_1.length c1_1) ∧ w'.cell? (Z39.add ((Z17).toNat * 2)) = some (.string ((rd_T33 l0 Z17).f0)) ∧ w'.cell? ⟨(Z39.add ((Z17).toNat * 2)).block, (Z39.add ((Z17).toNat * 2)).off + 1, none⟩ = some (.slice Z40 ((rd_T33 l0 Z17).f1).length Z41)) ∧ (Kd.R k70 70 w' w.heap.size (fun k_ => k_ ≠ s_) u5 Z16) ∧ (w'.heap[Z8]? = some (.cells #[.string a1_0, .slice A1_1 l1_1.length c1_1] 33 (0, 0))) ∧ (w'.heap[s_]? = some (.cells #[.string (⟨#[]⟩ : ByteArray), .string (⟨#[]⟩ : ByteArray), .int .i64 0, .int .i64 0, .int .i64 0] 70 (0, 0))) ∧ (w.heap.size ≤ s_) ∧ (w.heap.size ≤ s_) ∧ (Z8 ≠ s_) ∧ (s_ ≠ Z8) ∧ (Below w.heap.size w w')) ?_ ?_
       rotate_left
       ·intro hCont
        refine two_ (i := 5) (j := 9) (Ni := some 22) (Nj := some 7) #[true, true, true, true, true, true, false, false, false, false, false, false] #[true, true, true, true, true, false, false, false, false, true, false, false] rfl rfl rfl rfl (two_of HT_.out (by kernel_rfl)) (by decide) (by decide) (fun K hK => ?_) (fun K hK => ?_)
        ·skip
         refine gs Tryz.func49 #[.agg #[.string a1_0, .slice A1_1 l1_1.length c1_1], .agg #[.string ((rd_T33 l0 Z17).f0), .slice Z40 ((rd_T33 l0 Z17).f1).length Z41]] ?_
         with_reducible refine (spec_l3Meet.calls Z20 a1_0 _ _ l1_1 ((rd_T33 l0 Z17).f0) _ _ ((rd_T33 l0 Z17).f1) Z23 Z24 Z25 Z26 Z27 true _ ?side1 ?side2 ?side3 ?side4 Z29.out).mono ?_
         (case side1 => exact sc Z4)
         (case side2 => exact Z5.out)
         (case side3 => exact sc Z49)
         (case side4 => exact Z50.out)
         rintro e Z52 ⟨rfl, hb⟩
         refine ⟨_, rfl, ?_⟩
         have _ := ra (Kd.R_below (rq Z19) hb)
         have _ := bb (bk Z10) hb
         have _ := bs hb
         clear Z19 Z10 HB
         rename_i Z19 Z10 HB
         (try clear hb)
         (try clear hk)
         refine hK.out _ _ ⟨(blk_cell Z10.out 0).trans rfl, (blk_cell Z10.out 1).trans rfl, (hc HB Z48), (hc HB Z47)⟩ (fun hHeld => ?_)
         clear hK K
         refine nm 22 ?_
         refine pu 6 16 (bl 12 127) ?_
         refine pu 7 23 (bl 12 255) ?_
         refine pu 8 24 (bl 12 511) ?_
         refine oe 9 7 (bl 12 1023) (fun K hK => ?_)
         refine box_step ?hg (N := 7) ?hd (cs := #[.string (⟨#[]⟩ : ByteArray), .string (⟨#[]⟩ : ByteArray), .int .i64 0, .int .i64 0, .int .i64 0]) (t := 70) ?hr ?_; (case hd => rfl); (case hg => rfl); (case hr => first | (go_simp; done) | (go_simp; rfl))
         intro Z53 hg Z54 hbox hb
         have _ := ra (Kd.R_below (Kd.R_elderB (rq Z19) Z53 (Nat.le_of_eq hg.symm)) hb)
         have _ := bb (bk Z10) hb
         have _ := bs hb
         have _ := ra (hbox)
         have _ := bz (w0 := w) hg
         have _ := bz (w0 := w) hg
         have _ := bn hg (bk Z10)
         have _ := bm hg (bk Z10)
         clear Z19 Z10 HB
         rename_i Z19 Z10 HB Z55 Z56 Z57 Z58 Z59
         clear hb hbox hg
         refine hK.out _ _ ⟨(blk_cell Z10.out 0).trans rfl, (blk_cell Z10.out 1).trans rfl, (hc HB Z48), (hc HB Z47)⟩ (fun hHeld => ?_)
         clear hK K
         refine nm 7 ?_
         exact norm_ (by simp only [putAll, Act.put, List.setIfInBounds_toArray, List.set_cons_zero, List.set_cons_succ]) (hCont (Z53) _ ⟨hHeld, (by (with_reducible repeat (first | apply Kd.R_alloc | apply Kd.R_drewN | apply Kd.R_drew)); exact Kd.R_mono Z19.out (fun _ hk => hk.2)), (bk Z10), (bk Z55), Z56.out, Z57.out, Z58.out, Z59.out, bq⟩)
        ·skip
         refine box_step ?hg (N := 7) ?hd (cs := #[.string (⟨#[]⟩ : ByteArray), .string (⟨#[]⟩ : ByteArray), .int .i64 0, .int .i64 0, .int .i64 0]) (t := 70) ?hr ?_; (case hd => rfl); (case hg => rfl); (case hr => first | (go_simp; done) | (go_simp; rfl))
         intro Z52 hg Z53 hbox hb
         have _ := ra (Kd.R_below (Kd.R_elderB (rq Z19) Z52 (Nat.le_of_eq hg.symm)) hb)
         have _ := bb (bk Z10) hb
         have _ := bs hb
         have _ := ra (hbox)
         have _ := bz (w0 := w) hg
         have _ := bz (w0 := w) hg
         have _ := bn hg (bk Z10)
         have _ := bm hg (bk Z10)
         clear Z19 Z10 HB
         rename_i Z19 Z10 HB Z54 Z55 Z56 Z57 Z58
         clear hb hbox hg
         refine hK.out _ _ ⟨(blk_cell Z10.out 0).trans rfl, (blk_cell Z10.out 1).trans rfl, (hc HB Z48), (hc HB Z47)⟩ (fun hHeld => ?_)
         clear hK K
         refine nm 7 ?_
         refine oe 5 22 (bl 12 575) (fun K hK => ?_)
         refine gs Tryz.func49 #[.agg #[.string a1_0, .slice A1_1 l1_1.length c1_1], .agg #[.string ((rd_T33 l0 Z17).f0), .slice Z40 ((rd_T33 l0 Z17).f1).length Z41]] ?_
         with_reducible refine (spec_l3Meet.calls Z20 a1_0 _ _ l1_1 ((rd_T33 l0 Z17).f0) _ _ ((rd_T33 l0 Z17).f1) Z23 Z24 Z25 Z26 Z27 true _ ?side1 ?side2 ?side3 ?side4 Z29.out).mono ?_
         (case side1 => exact sc Z4)
         (case side2 => exact Z5.out)
         (case side3 => exact sc Z49)
         (case side4 => exact Z50.out)
         rintro e Z59 ⟨rfl, hb⟩
         refine ⟨_, rfl, ?_⟩
         have _ := ra (Kd.R_below (rq Z19) hb)
         have _ := bb (bk Z10) hb
         have _ := bb (bk Z54) hb
         have _ := bs hb
         clear Z19 Z10 Z54 HB
         rename_i Z19 Z10 Z54 HB
         (try clear hb)
         (try clear hk)
         refine hK.out _ _ ⟨(blk_cell Z10.out 0).trans rfl, (blk_cell Z10.out 1).trans rfl, (hc HB Z48), (hc HB Z47)⟩ (fun hHeld => ?_)
         clear hK K
         refine nm 22 ?_
         refine pu 6 16 (bl 12 639) ?_
         refine pu 7 23 (bl 12 767) ?_
         refine pu 8 24 (bl 12 1023) ?_
         exact norm_ (by simp only [putAll, Act.put, List.setIfInBounds_toArray, List.set_cons_zero, List.set_cons_succ]) (hCont (Z52) _ ⟨hHeld, (by (with_reducible repeat (first | apply Kd.R_alloc | apply Kd.R_drewN | apply Kd.R_drew)); exact Kd.R_mono Z19.out (fun _ hk => hk.2)), (bk Z10), (bk Z54), Z55.out, Z56.out, Z57.out, Z58.out, bq⟩)
       rintro Z52 Z53 ⟨hS_, Z54, Z55, Z56, Z57, Z58, Z59, Z60, Z61⟩
       have _ : Aside0 (Kd.R k70 70 Z53 w.heap.size (fun k_ => k_ ≠ Z52) u5 Z16) := ⟨Z54⟩
       have _ : Aside0 (Z53.heap[Z8]? = some (.cells #[.string a1_0, .slice A1_1 l1_1.length c1_1] 33 (0, 0))) := ⟨Z55⟩
       have _ : Aside0 (Z53.heap[Z52]? = some (.cells #[.string (⟨#[]⟩ : ByteArray), .string (⟨#[]⟩ : ByteArray), .int .i64 0, .int .i64 0, .int .i64 0] 70 (0, 0))) := ⟨Z56⟩
       have _ : Aside0 (w.heap.size ≤ Z52) := ⟨Z57⟩
       have _ : Aside0 (w.heap.size ≤ Z52) := ⟨Z58⟩
       have _ : Aside0 (Z8 ≠ Z52) := ⟨Z59⟩
       have _ : Aside0 (Z52 ≠ Z8) := ⟨Z60⟩
       have _ : Aside0 (Below w.heap.size w Z53) := ⟨Z61⟩
       clear Z19 Z10 HB
       clear Z54 Z55 Z56 Z57 Z58 Z59 Z60 Z61
       rename_i Z19 Z10 Z62 Z63 Z64 Z65 Z66 HB
       have hHeld : Z53.cell? ⟨Z8, 0, none⟩ = some (.string a1_0) ∧ Z53.cell? ⟨Z8, 1, none⟩ = some (.slice A1_1 l1_1.length c1_1) ∧ Z53.cell? (Z39.add ((Z17).toNat * 2)) = some (.string ((rd_T33 l0 Z17).f0)) ∧ Z53.cell? ⟨(Z39.add ((Z17).toNat * 2)).block, (Z39.add ((Z17).toNat * 2)).off + 1, none⟩ = some (.slice Z40 ((rd_T33 l0 Z17).f1).length Z41) := hS_
       refine norm_ (a' := ?_) ?_ ?_
       rotate_left
       ·simp only [putAll, Act.put, List.setIfInBounds_toArray, List.set_cons_zero, List.set_cons_succ]
        rfl
       refine one_ (i := 10) (N := none) #[true, true, true, true, true, true, true, true, true, true, true, false] rfl rfl (one_of HT_.out (by kernel_rfl)) (by decide) (fun K hK => ?_)
       have Z67 : Z53.cell? ⟨Z52, 0, none⟩ = some (.string (⟨#[]⟩ : ByteArray)) := (blk_cell Z62.out 0).trans rfl
       have Z68 := blk_frozen Z62.out 0
       have Z69 := Z65.out
       have Z70 := Z66.out
       have Z71 : Z53.cell? ⟨Z52, 1, none⟩ = some (.string (⟨#[]⟩ : ByteArray)) := (blk_cell Z62.out 1).trans rfl
       have Z72 := blk_frozen Z62.out 1
       have Z73 := Z65.out
       have Z74 := Z66.out
       have Z75 : Z53.cell? ⟨Z52, 2, none⟩ = some (.int .i64 0) := (blk_cell Z62.out 2).trans rfl
       have Z76 := blk_frozen Z62.out 2
       have Z77 := Z65.out
       have Z78 := Z66.out
       have Z79 : Z53.cell? ⟨Z52, 3, none⟩ = some (.int .i64 0) := (blk_cell Z62.out 3).trans rfl
       have Z80 := blk_frozen Z62.out 3
       have Z81 := Z65.out
       have Z82 := Z66.out
       have Z83 : Z53.cell? ⟨Z52, 4, none⟩ = some (.int .i64 0) := (blk_cell Z62.out 4).trans rfl
       have Z84 := blk_frozen Z62.out 4
       have Z85 := Z65.out
       have Z86 := Z66.out
       refine skip_ (w1 := ?_) (by rfl) rfl ?_ ?_
       rotate_left
       ·go_simp
        rfl
       refine hK.out _ _ ⟨cf hHeld.1, cf hHeld.2.1, cg hHeld.2.2.1 Z48, cg hHeld.2.2.2 Z47⟩ (fun hHeld => ?_)
       clear hK K
       refine pu 11 8 (bl 12 4095) ?_
       refine done_ (done_of HT_.out (by kernel_rfl)) ?_
       try go_wp2
       have Z87 : Aside0 (Kd.R k70 70 (((((Z53.setCell ⟨Z52, 0, none⟩ (.string Z23)).setCell ⟨Z52, 1, none⟩ (.string Z24)).setCell ⟨Z52, 2, none⟩ (.int .i64 Z25)).setCell ⟨Z52, 3, none⟩ (.int .i64 Z26)).setCell ⟨Z52, 4, none⟩ (.int .i64 Z27)) w.heap.size (fun k_ => k_ ≠ Z52) u5 Z16) := ⟨by (with_reducible repeat (first | apply Kd.R_alloc | apply Kd.R_drewN | apply Kd.R_drew)); exact Kd.R_mono (rf (Kd.R_mono Z19.out (fun k_ hk => (⟨hk, hk⟩ : _ ∧ k_ ≠ Z52)))) (fun _ hk => hk.1)⟩
       have Z88 : Aside0 ((((((Z53.setCell ⟨Z52, 0, none⟩ (.string Z23)).setCell ⟨Z52, 1, none⟩ (.string Z24)).setCell ⟨Z52, 2, none⟩ (.int .i64 Z25)).setCell ⟨Z52, 3, none⟩ (.int .i64 Z26)).setCell ⟨Z52, 4, none⟩ (.int .i64 Z27)).heap[Z8]? = some (.cells #[.string a1_0, .slice A1_1 l1_1.length c1_1] 33 (0, 0))) := ⟨bk Z10⟩
       have Z89 : Aside0 ((((((Z53.setCell ⟨Z52, 0, none⟩ (.string Z23)).setCell ⟨Z52, 1, none⟩ (.string Z24)).setCell ⟨Z52, 2, none⟩ (.int .i64 Z25)).setCell ⟨Z52, 3, none⟩ (.int .i64 Z26)).setCell ⟨Z52, 4, none⟩ (.int .i64 Z27)).heap[Z52]? = some (.cells #[.string Z23, .string Z24, .int .i64 Z25, .int .i64 Z26, .int .i64 Z27] 70 (0, 0))) := ⟨bp Z62⟩
       have Z90 : Aside0 (Below w.heap.size w (((((Z53.setCell ⟨Z52, 0, none⟩ (.string Z23)).setCell ⟨Z52, 1, none⟩ (.string Z24)).setCell ⟨Z52, 2, none⟩ (.int .i64 Z25)).setCell ⟨Z52, 3, none⟩ (.int .i64 Z26)).setCell ⟨Z52, 4, none⟩ (.int .i64 Z27))) := ⟨bq⟩
       (try clear Z19)
       (try clear Z10)
       (try clear Z62)
       (try clear HB)
       generalize (((((Z53.setCell ⟨Z52, 0, none⟩ (.string Z23)).setCell ⟨Z52, 1, none⟩ (.string Z24)).setCell ⟨Z52, 2, none⟩ (.int .i64 Z25)).setCell ⟨Z52, 3, none⟩ (.int .i64 Z26)).setCell ⟨Z52, 4, none⟩ (.int .i64 Z27)) = Z91 at Z87 Z88 Z89 Z90 ⊢
       have Z19 := Z87
       have Z10 := Z88
       have Z62 := Z89
       have HB := Z90
       clear Z87 Z88 Z89 Z90
       have _ := ra (Kd.R_drew Z19.out)
       have _ := ra (blk_drew Z10.out)
       have _ := ra (blk_drew Z62.out)
       have _ := ra (below_drew1 HB.out)
       clear Z19 Z10 Z62 HB
       rename_i Z19 Z10 Z62 HB
       have Z92 : 0 ≤ (Z17 : Int) := od
       have Z93 : Z17 < (l0.length : Int) := od
       obtain ⟨Z94, Z95, Z96, Z97, Z98, Z99, Z100, Z101⟩ := at_T33 Z2.out Z17 Z92 Z93
       have Z102 := Z99
       have Z103 := Z98
       obtain rfl : Z39 = Z94 := (by injection Z97)
       replace Z98 := hc HB Z98
       replace Z99 := hc HB Z99
       have Z104 := ra Z101
       have Z105 := ra Z100
       clear Z101 Z100
       replace Z92 := eq_true Z92
       replace Z93 := eq_true Z93
       refine start_ (n := 11) (S := fun w' => w'.cell? ⟨Z8, 0, none⟩ = some (.string a1_0) ∧ w'.cell? ⟨Z8, 1, none⟩ = some (.slice A1_1 l1_1.length c1_1) ∧ w'.cell? (Z39.add ((Z17).toNat * 2)) = some (.string ((rd_T33 l0 Z17).f0)) ∧ w'.cell? ⟨(Z39.add ((Z17).toNat * 2)).block, (Z39.add ((Z17).toNat * 2)).off + 1, none⟩ = some (.slice Z95 ((rd_T33 l0 Z17).f1).length Z96)) (ds := []) (bl 11 0) (by kernel_rfl) rfl rfl ⟨(blk_cell Z10.out 0).trans rfl, (blk_cell Z10.out 1).trans rfl, (hc HB Z103), (hc HB Z102)⟩ (fun hHeld => ?_); refine with_tabW spec_l4With.tab6 spec_l4With.bits6 (fun HT_ HW_ => ?_)
       generalize Z91.drew = Z106 at Z19 Z10 Z62 HB Z104 Z98 Z99 hHeld ⊢
       refine pu 0 25 (bl 11 1) ?_
       refine pu 1 26 (bl 11 3) ?_
       refine pu 2 27 (bl 11 7) ?_
       refine pu 3 28 (bl 11 15) ?_
       refine pu 4 29 (bl 11 31) ?_
       refine pu 5 30 (bl 11 63) ?_
       refine pu 7 32 (bl 11 191) ?_
       refine tk 6 31 (bl 11 255) ?_ hHeld
       refine tk 8 33 (bl 11 511) ?_ hHeld
       refine pu 9 34 (bl 11 1023) ?_
       refine pu 10 35 (bl 11 2047) ?_
       refine done_ (done_of HT_.out (by kernel_rfl)) ?_
       have Z107 := Z66.out
       have Z108 := Z65.out
       obtain ⟨Z109, Z110, Z111, Z112, Z113, Z114, Z115, Z116, Z117, Z118⟩ := zc5 Z62
       try go_wp2_with (first | ((with_reducible refine gate_builtin (b := .append) (xs := #[.tmp 36, .tmp 38]) rfl ?_); at_builtin; refine Kd.R_append k70 (w0 := w) w.heap.size rfl (.tmp 36) (.tmp 38) 57 70 (.agg #[(.string ⟨#[]⟩), (.string ⟨#[]⟩), (.int .i64 0), (.int .i64 0), (.int .i64 0)]) 56 rfl Tryz.underlying57 info70 rfl (by decide) (by omega) u5 Z16 (⟨Z23, Z24, Z25, Z26, Z27⟩ : S70) [.string Z23, .string Z24, .int .i64 Z25, .int .i64 Z26, .int .i64 Z27] (fun k_ => k_ ≠ Z52) (fun _ => False) rfl rfl ?aP (fun _ hk => hk.elim) ?aF ?aO ?aB ?aS ?aL ?_; (case aP => exact k70_mkM _ _ _ (⟨Z23, Z24, Z25, Z26, Z27⟩ : S70)); (case aB => exact bq); (case aF => exact (fun k_ hk => Kd.freshB (g := Z52) (o := .cells #[.string Z23, .string Z24, .int .i64 Z25, .int .i64 Z26, .int .i64 Z27] 70 (0, 0)) (bk Z62) k_ hk)); (case aO => exact (rq Z19)); (case aS => exact (below_size bq)); (case aL => have := Z34.out; omega); intro Z119 Z120 ho hb hg hat; rw [← Z36.out] at ho; have _ := ra (blk_grown (g := Z8) (o := .cells #[.string a1_0, .slice A1_1 l1_1.length c1_1] 33 (0, 0)) (bk Z10) hg (Kd.R_ne Z19.out Z10.out (by decide))); have _ := ra (blk_grown (g := Z52) (o := .cells #[.string Z23, .string Z24, .int .i64 Z25, .int .i64 Z26, .int .i64 Z27] 70 (0, 0)) (bk Z62) hg (Kd.R_away Z19.out (fun _ hk => hk))); have _ := ra (hb); have _ := ra (ho); clear Z10 Z62 HB Z19; rename_i Z10 Z62 HB Z121; clear ho hb hg hat))
       go_roundg Z20
       case measure => have := Z18.out; omega
       case rel => exact ⟨_, _, rs, H', ⟨by have := Z18.out; omega⟩, ⟨by (with_reducible repeat (first | apply Kd.R_alloc | apply Kd.R_drewN | apply Kd.R_drew)); exact Kd.R_mono Z121.out (fun _ hk => trivial)⟩, ⟨bk Z10⟩, ⟨bq⟩⟩
      ·rw [if_neg Z33] at H
       exact absurd H (by simp)
    ·have H' := ra H; clear H
     try go_wp2
     have _ := ra (Kd.R_drew Z19.out)
     have _ := ra (blk_drew Z10.out)
     have _ := ra (below_drew1 HB.out)
     clear Z19 Z10 HB
     rename_i Z19 Z10 HB
     have Z31 : 0 ≤ (Z17 : Int) := od
     have Z32 : Z17 < (l0.length : Int) := od
     obtain ⟨Z33, Z34, Z35, Z36, Z37, Z38, Z39, Z40⟩ := at_T33 Z2.out Z17 Z31 Z32
     have Z41 := Z38
     have Z42 := Z37
     cases Z36
     replace Z37 := hc HB Z37
     replace Z38 := hc HB Z38
     have Z43 := ra Z40
     have Z44 := ra Z39
     clear Z40 Z39
     replace Z31 := eq_true Z31
     replace Z32 := eq_true Z32
     refine start_ (n := 12) (S := fun w' => w'.cell? ⟨Z8, 0, none⟩ = some (.string a1_0) ∧ w'.cell? ⟨Z8, 1, none⟩ = some (.slice A1_1 l1_1.length c1_1) ∧ w'.cell? (Z33.add ((Z17).toNat * 2)) = some (.string ((rd_T33 l0 Z17).f0)) ∧ w'.cell? ⟨(Z33.add ((Z17).toNat * 2)).block, (Z33.add ((Z17).toNat * 2)).off + 1, none⟩ = some (.slice Z34 ((rd_T33 l0 Z17).f1).length Z35)) (ds := []) (bl 12 0) (by kernel_rfl) rfl rfl ⟨(blk_cell Z10.out 0).trans rfl, (blk_cell Z10.out 1).trans rfl, (hc HB Z42), (hc HB Z41)⟩ (fun hHeld => ?_); refine with_tabW spec_l4With.tab5 spec_l4With.bits5 (fun HT_ HW_ => ?_)
     generalize wr.drew = Z45 at Z19 Z10 HB Z43 Z37 Z38 hHeld ⊢
     refine pu 1 18 (bl 12 2) ?_
     refine pu 2 19 (bl 12 6) ?_
     refine pu 3 20 (bl 12 14) ?_
     refine tk 0 17 (bl 12 15) ?_ hHeld
     refine tk 4 21 (bl 12 31) ?_ hHeld
     refine join_ (σ := Nat) 2 #[true, true, true, true, true, true, true, true, true, true, false, false] (fun s_ => [(22, .tuple #[.agg #[.string Z23, .string Z24, .int .i64 Z25, .int .i64 Z26, .int .i64 Z27], .bool false]), (7, .pointer (some ⟨s_, 0, none⟩)), (16, .tuple #[.agg #[.string Z23, .string Z24, .int .i64 Z25, .int .i64 Z26, .int .i64 Z27], .bool false]), (23, .agg #[.string Z23, .string Z24, .int .i64 Z25, .int .i64 Z26, .int .i64 Z27]), (24, .bool false)]) (fun s_ w' => (w'.cell? ⟨Z8, 0, none⟩ = some (.string a1_0) ∧ w'.cell? ⟨Z8, 1, none⟩ = some (.slice A1_1 l1_1.length c1_1) ∧ w'.cell? (Z33.add ((Z17).toNat * 2)) = some (.string ((rd_T33 l0 Z17).f0)) ∧ w'.cell? ⟨(Z33.add ((Z17).toNat * 2)).block, (Z33.add ((Z17).toNat * 2)).off + 1, none⟩ = some (.slice Z34 ((rd_T33 l0 Z17).f1).length Z35)) ∧ (Kd.R k70 70 w' w.heap.size (fun k_ => k_ ≠ s_) u5 Z16) ∧ (w'.heap[Z8]? = some (.cells #[.string a1_0, .slice A1_1 l1_1.length c1_1] 33 (0, 0))) ∧ (w'.heap[s_]? = some (.cells #[.string (⟨#[]⟩ : ByteArray), .string (⟨#[]⟩ : ByteArray), .int .i64 0, .int .i64 0, .int .i64 0] 70 (0, 0))) ∧ (w.heap.size ≤ s_) ∧ (w.heap.size ≤ s_) ∧ (Z8 ≠ s_) ∧ (s_ ≠ Z8) ∧ (Below w.heap.size w w')) ?_ ?_
     rotate_left
     ·intro hCont
      refine two_ (i := 5) (j := 9) (Ni := some 22) (Nj := some 7) #[true, true, true, true, true, true, false, false, false, false, false, false] #[true, true, true, true, true, false, false, false, false, true, false, false] rfl rfl rfl rfl (two_of HT_.out (by kernel_rfl)) (by decide) (by decide) (fun K hK => ?_) (fun K hK => ?_)
      ·skip
       refine gs Tryz.func49 #[.agg #[.string a1_0, .slice A1_1 l1_1.length c1_1], .agg #[.string ((rd_T33 l0 Z17).f0), .slice Z34 ((rd_T33 l0 Z17).f1).length Z35]] ?_
       with_reducible refine (spec_l3Meet.calls Z20 a1_0 _ _ l1_1 ((rd_T33 l0 Z17).f0) _ _ ((rd_T33 l0 Z17).f1) Z23 Z24 Z25 Z26 Z27 false _ ?side1 ?side2 ?side3 ?side4 Z29.out).mono ?_
       (case side1 => exact sc Z4)
       (case side2 => exact Z5.out)
       (case side3 => exact sc Z43)
       (case side4 => exact Z44.out)
       rintro e Z46 ⟨rfl, hb⟩
       refine ⟨_, rfl, ?_⟩
       have _ := ra (Kd.R_below (rq Z19) hb)
       have _ := bb (bk Z10) hb
       have _ := bs hb
       clear Z19 Z10 HB
       rename_i Z19 Z10 HB
       (try clear hb)
       (try clear hk)
       refine hK.out _ _ ⟨(blk_cell Z10.out 0).trans rfl, (blk_cell Z10.out 1).trans rfl, (hc HB Z42), (hc HB Z41)⟩ (fun hHeld => ?_)
       clear hK K
       refine nm 22 ?_
       refine pu 6 16 (bl 12 127) ?_
       refine pu 7 23 (bl 12 255) ?_
       refine pu 8 24 (bl 12 511) ?_
       refine oe 9 7 (bl 12 1023) (fun K hK => ?_)
       refine box_step ?hg (N := 7) ?hd (cs := #[.string (⟨#[]⟩ : ByteArray), .string (⟨#[]⟩ : ByteArray), .int .i64 0, .int .i64 0, .int .i64 0]) (t := 70) ?hr ?_; (case hd => rfl); (case hg => rfl); (case hr => first | (go_simp; done) | (go_simp; rfl))
       intro Z47 hg Z48 hbox hb
       have _ := ra (Kd.R_below (Kd.R_elderB (rq Z19) Z47 (Nat.le_of_eq hg.symm)) hb)
       have _ := bb (bk Z10) hb
       have _ := bs hb
       have _ := ra (hbox)
       have _ := bz (w0 := w) hg
       have _ := bz (w0 := w) hg
       have _ := bn hg (bk Z10)
       have _ := bm hg (bk Z10)
       clear Z19 Z10 HB
       rename_i Z19 Z10 HB Z49 Z50 Z51 Z52 Z53
       clear hb hbox hg
       refine hK.out _ _ ⟨(blk_cell Z10.out 0).trans rfl, (blk_cell Z10.out 1).trans rfl, (hc HB Z42), (hc HB Z41)⟩ (fun hHeld => ?_)
       clear hK K
       refine nm 7 ?_
       exact norm_ (by simp only [putAll, Act.put, List.setIfInBounds_toArray, List.set_cons_zero, List.set_cons_succ]) (hCont (Z47) _ ⟨hHeld, (by (with_reducible repeat (first | apply Kd.R_alloc | apply Kd.R_drewN | apply Kd.R_drew)); exact Kd.R_mono Z19.out (fun _ hk => hk.2)), (bk Z10), (bk Z49), Z50.out, Z51.out, Z52.out, Z53.out, bq⟩)
      ·skip
       refine box_step ?hg (N := 7) ?hd (cs := #[.string (⟨#[]⟩ : ByteArray), .string (⟨#[]⟩ : ByteArray), .int .i64 0, .int .i64 0, .int .i64 0]) (t := 70) ?hr ?_; (case hd => rfl); (case hg => rfl); (case hr => first | (go_simp; done) | (go_simp; rfl))
       intro Z46 hg Z47 hbox hb
       have _ := ra (Kd.R_below (Kd.R_elderB (rq Z19) Z46 (Nat.le_of_eq hg.symm)) hb)
       have _ := bb (bk Z10) hb
       have _ := bs hb
       have _ := ra (hbox)
       have _ := bz (w0 := w) hg
       have _ := bz (w0 := w) hg
       have _ := bn hg (bk Z10)
       have _ := bm hg (bk Z10)
       clear Z19 Z10 HB
       rename_i Z19 Z10 HB Z48 Z49 Z50 Z51 Z52
       clear hb hbox hg
       refine hK.out _ _ ⟨(blk_cell Z10.out 0).trans rfl, (blk_cell Z10.out 1).trans rfl, (hc HB Z42), (hc HB Z41)⟩ (fun hHeld => ?_)
       clear hK K
       refine nm 7 ?_
       refine oe 5 22 (bl 12 575) (fun K hK => ?_)
       refine gs Tryz.func49 #[.agg #[.string a1_0, .slice A1_1 l1_1.length c1_1], .agg #[.string ((rd_T33 l0 Z17).f0), .slice Z34 ((rd_T33 l0 Z17).f1).length Z35]] ?_
       with_reducible refine (spec_l3Meet.calls Z20 a1_0 _ _ l1_1 ((rd_T33 l0 Z17).f0) _ _ ((rd_T33 l0 Z17).f1) Z23 Z24 Z25 Z26 Z27 false _ ?side1 ?side2 ?side3 ?side4 Z29.out).mono ?_
       (case side1 => exact sc Z4)
       (case side2 => exact Z5.out)
       (case side3 => exact sc Z43)
       (case side4 => exact Z44.out)
       rintro e Z53 ⟨rfl, hb⟩
       refine ⟨_, rfl, ?_⟩
       have _ := ra (Kd.R_below (rq Z19) hb)
       have _ := bb (bk Z10) hb
       have _ := bb (bk Z48) hb
       have _ := bs hb
       clear Z19 Z10 Z48 HB
       rename_i Z19 Z10 Z48 HB
       (try clear hb)
       (try clear hk)
       refine hK.out _ _ ⟨(blk_cell Z10.out 0).trans rfl, (blk_cell Z10.out 1).trans rfl, (hc HB Z42), (hc HB Z41)⟩ (fun hHeld => ?_)
       clear hK K
       refine nm 22 ?_
       refine pu 6 16 (bl 12 639) ?_
       refine pu 7 23 (bl 12 767) ?_
       refine pu 8 24 (bl 12 1023) ?_
       exact norm_ (by simp only [putAll, Act.put, List.setIfInBounds_toArray, List.set_cons_zero, List.set_cons_succ]) (hCont (Z46) _ ⟨hHeld, (by (with_reducible repeat (first | apply Kd.R_alloc | apply Kd.R_drewN | apply Kd.R_drew)); exact Kd.R_mono Z19.out (fun _ hk => hk.2)), (bk Z10), (bk Z48), Z49.out, Z50.out, Z51.out, Z52.out, bq⟩)
     rintro Z46 Z47 ⟨hS_, Z48, Z49, Z50, Z51, Z52, Z53, Z54, Z55⟩
     have _ : Aside0 (Kd.R k70 70 Z47 w.heap.size (fun k_ => k_ ≠ Z46) u5 Z16) := ⟨Z48⟩
     have _ : Aside0 (Z47.heap[Z8]? = some (.cells #[.string a1_0, .slice A1_1 l1_1.length c1_1] 33 (0, 0))) := ⟨Z49⟩
     have _ : Aside0 (Z47.heap[Z46]? = some (.cells #[.string (⟨#[]⟩ : ByteArray), .string (⟨#[]⟩ : ByteArray), .int .i64 0, .int .i64 0, .int .i64 0] 70 (0, 0))) := ⟨Z50⟩
     have _ : Aside0 (w.heap.size ≤ Z46) := ⟨Z51⟩
     have _ : Aside0 (w.heap.size ≤ Z46) := ⟨Z52⟩
     have _ : Aside0 (Z8 ≠ Z46) := ⟨Z53⟩
     have _ : Aside0 (Z46 ≠ Z8) := ⟨Z54⟩
     have _ : Aside0 (Below w.heap.size w Z47) := ⟨Z55⟩
     clear Z19 Z10 HB
     clear Z48 Z49 Z50 Z51 Z52 Z53 Z54 Z55
     rename_i Z19 Z10 Z56 Z57 Z58 Z59 Z60 HB
     have hHeld : Z47.cell? ⟨Z8, 0, none⟩ = some (.string a1_0) ∧ Z47.cell? ⟨Z8, 1, none⟩ = some (.slice A1_1 l1_1.length c1_1) ∧ Z47.cell? (Z33.add ((Z17).toNat * 2)) = some (.string ((rd_T33 l0 Z17).f0)) ∧ Z47.cell? ⟨(Z33.add ((Z17).toNat * 2)).block, (Z33.add ((Z17).toNat * 2)).off + 1, none⟩ = some (.slice Z34 ((rd_T33 l0 Z17).f1).length Z35) := hS_
     refine norm_ (a' := ?_) ?_ ?_
     rotate_left
     ·simp only [putAll, Act.put, List.setIfInBounds_toArray, List.set_cons_zero, List.set_cons_succ]
      rfl
     refine one_ (i := 10) (N := none) #[true, true, true, true, true, true, true, true, true, true, true, false] rfl rfl (one_of HT_.out (by kernel_rfl)) (by decide) (fun K hK => ?_)
     have Z61 : Z47.cell? ⟨Z46, 0, none⟩ = some (.string (⟨#[]⟩ : ByteArray)) := (blk_cell Z56.out 0).trans rfl
     have Z62 := blk_frozen Z56.out 0
     have Z63 := Z59.out
     have Z64 := Z60.out
     have Z65 : Z47.cell? ⟨Z46, 1, none⟩ = some (.string (⟨#[]⟩ : ByteArray)) := (blk_cell Z56.out 1).trans rfl
     have Z66 := blk_frozen Z56.out 1
     have Z67 := Z59.out
     have Z68 := Z60.out
     have Z69 : Z47.cell? ⟨Z46, 2, none⟩ = some (.int .i64 0) := (blk_cell Z56.out 2).trans rfl
     have Z70 := blk_frozen Z56.out 2
     have Z71 := Z59.out
     have Z72 := Z60.out
     have Z73 : Z47.cell? ⟨Z46, 3, none⟩ = some (.int .i64 0) := (blk_cell Z56.out 3).trans rfl
     have Z74 := blk_frozen Z56.out 3
     have Z75 := Z59.out
     have Z76 := Z60.out
     have Z77 : Z47.cell? ⟨Z46, 4, none⟩ = some (.int .i64 0) := (blk_cell Z56.out 4).trans rfl
     have Z78 := blk_frozen Z56.out 4
     have Z79 := Z59.out
     have Z80 := Z60.out
     refine skip_ (w1 := ?_) (by rfl) rfl ?_ ?_
     rotate_left
     ·go_simp
      rfl
     refine hK.out _ _ ⟨cf hHeld.1, cf hHeld.2.1, cg hHeld.2.2.1 Z42, cg hHeld.2.2.2 Z41⟩ (fun hHeld => ?_)
     clear hK K
     refine pu 11 8 (bl 12 4095) ?_
     refine done_ (done_of HT_.out (by kernel_rfl)) ?_
     try go_wp2
     have Z81 : Aside0 (Kd.R k70 70 (((((Z47.setCell ⟨Z46, 0, none⟩ (.string Z23)).setCell ⟨Z46, 1, none⟩ (.string Z24)).setCell ⟨Z46, 2, none⟩ (.int .i64 Z25)).setCell ⟨Z46, 3, none⟩ (.int .i64 Z26)).setCell ⟨Z46, 4, none⟩ (.int .i64 Z27)) w.heap.size (fun k_ => k_ ≠ Z46) u5 Z16) := ⟨by (with_reducible repeat (first | apply Kd.R_alloc | apply Kd.R_drewN | apply Kd.R_drew)); exact Kd.R_mono (rf (Kd.R_mono Z19.out (fun k_ hk => (⟨hk, hk⟩ : _ ∧ k_ ≠ Z46)))) (fun _ hk => hk.1)⟩
     have Z82 : Aside0 ((((((Z47.setCell ⟨Z46, 0, none⟩ (.string Z23)).setCell ⟨Z46, 1, none⟩ (.string Z24)).setCell ⟨Z46, 2, none⟩ (.int .i64 Z25)).setCell ⟨Z46, 3, none⟩ (.int .i64 Z26)).setCell ⟨Z46, 4, none⟩ (.int .i64 Z27)).heap[Z8]? = some (.cells #[.string a1_0, .slice A1_1 l1_1.length c1_1] 33 (0, 0))) := ⟨bk Z10⟩
     have Z83 : Aside0 ((((((Z47.setCell ⟨Z46, 0, none⟩ (.string Z23)).setCell ⟨Z46, 1, none⟩ (.string Z24)).setCell ⟨Z46, 2, none⟩ (.int .i64 Z25)).setCell ⟨Z46, 3, none⟩ (.int .i64 Z26)).setCell ⟨Z46, 4, none⟩ (.int .i64 Z27)).heap[Z46]? = some (.cells #[.string Z23, .string Z24, .int .i64 Z25, .int .i64 Z26, .int .i64 Z27] 70 (0, 0))) := ⟨bp Z56⟩
     have Z84 : Aside0 (Below w.heap.size w (((((Z47.setCell ⟨Z46, 0, none⟩ (.string Z23)).setCell ⟨Z46, 1, none⟩ (.string Z24)).setCell ⟨Z46, 2, none⟩ (.int .i64 Z25)).setCell ⟨Z46, 3, none⟩ (.int .i64 Z26)).setCell ⟨Z46, 4, none⟩ (.int .i64 Z27))) := ⟨bq⟩
     (try clear Z19)
     (try clear Z10)
     (try clear Z56)
     (try clear HB)
     generalize (((((Z47.setCell ⟨Z46, 0, none⟩ (.string Z23)).setCell ⟨Z46, 1, none⟩ (.string Z24)).setCell ⟨Z46, 2, none⟩ (.int .i64 Z25)).setCell ⟨Z46, 3, none⟩ (.int .i64 Z26)).setCell ⟨Z46, 4, none⟩ (.int .i64 Z27)) = Z85 at Z81 Z82 Z83 Z84 ⊢
     have Z19 := Z81
     have Z10 := Z82
     have Z56 := Z83
     have HB := Z84
     clear Z81 Z82 Z83 Z84
     have _ := ra (Kd.R_drew Z19.out)
     have _ := ra (blk_drew Z10.out)
     have _ := ra (blk_drew Z56.out)
     have _ := ra (below_drew1 HB.out)
     clear Z19 Z10 Z56 HB
     rename_i Z19 Z10 Z56 HB
     refine start_ (n := 11) (S := fun w' => True) (ds := []) (bl 11 0) (by kernel_rfl) rfl rfl trivial (fun hHeld => ?_); refine with_tabW spec_l4With.tab6 spec_l4With.bits6 (fun HT_ HW_ => ?_)
     generalize Z85.drew = Z86 at Z19 Z10 Z56 HB hHeld ⊢
     refine pu 0 25 (bl 11 1) ?_
     refine pu 1 26 (bl 11 3) ?_
     refine pv 2 27 (bl 11 7) ?_
     refine pv 3 28 (bl 11 15) ?_
     refine pv 4 29 (bl 11 31) ?_
     refine pv 5 30 (bl 11 63) ?_
     refine pv 6 31 (bl 11 127) ?_
     refine pv 7 32 (bl 11 255) ?_
     refine pv 8 33 (bl 11 511) ?_
     refine pv 9 34 (bl 11 1023) ?_
     refine pu 10 35 (bl 11 2047) ?_
     refine done_ (done_of HT_.out (by kernel_rfl)) ?_
     try go_wp2
     go_roundg Z20
     case measure => have := Z18.out; omega
     case rel => exact ⟨_, _, rs, H', ⟨by have := Z18.out; omega⟩, ⟨by (with_reducible repeat (first | apply Kd.R_alloc | apply Kd.R_drewN | apply Kd.R_drew)); exact Kd.R_mono Z19.out (fun _ hk => trivial)⟩, ⟨bk Z10⟩, ⟨bq⟩⟩
   ·obtain rfl := Option.some.inj H
    go_wp2
    go_ret
    exact ⟨_, re, rq Z19, bq⟩
theorem spec_ProbeFree.calls (k : Nat) (A0 : Option Addr) (c0 : Nat) (l0 : List (S33)) (a1_0 : ByteArray) (A1_1 : Option Addr) (c1_1 : Nat) (l1_1 : List (S46)) (r : Bool) (w : World) (hr0 : Kd.C k33 w A0 l0.length l0) (hc0 : l0.length ≤ c0) (hr1_1 : Kd.C k46 w A1_1 l1_1.length l1_1) (hc1_1 : l1_1.length ≤ c1_1) (h : spec_ProbeFree.f k l0 a1_0 l1_1 = some r) :
  Calls Tryz.prog 26 #[.slice A0 l0.length c0, .agg #[.string a1_0, .slice A1_1 l1_1.length c1_1]] w fun e w' => e = .returned (.bool r) ∧ Below w.heap.size w w' := by
 have Z0 := Tryz.underlying33
 have Z1 := ra hr0
 have Z2 := ra hc0
 clear hr0 hc0
 have Z3 := ra hr1_1
 have Z4 := ra hc1_1
 clear hr1_1 hc1_1
 have HB := ra (Below.refl w.heap.size w)
 have H := h; unfold spec_ProbeFree.f at H
 clear h
 obtain ⟨Z5, Z6, H⟩ := bo H
 rcases ud H with ⟨rfl, Z7⟩ | ⟨rfl, Z7⟩ <;> have H := Z7
 ·obtain ⟨Z8, Z9, H⟩ := bo H
  rcases ud H with ⟨rfl, Z10⟩ | ⟨rfl, Z10⟩ <;> have H := Z10
  ·obtain ⟨Z11, Z12, H⟩ := bo H
   obtain rfl := Option.some.inj H
   go_enter Tryz.func26, Tryz.ntmps26
   go_wp2_with (first | ((with_reducible refine gd 3 rfl ?_); (try (refine gate_guard (by rfl) ?_; dsimp only)); refine bd 3 #[.string a1_0, .slice A1_1 l1_1.length c1_1] 33 ?_; intro Z13 Z14 HB Z15 Z16) | ((with_reducible refine gc 48 rfl ?_); refine gy (some 6) Tryz.func48 (spec_ProbeSkyOk.calls _ _ _ _ _ _ (sc Z1) Z2.out Z6.out) ?_; rintro Z17 hb; replace Z15 := bb (bk Z15) hb; replace HB := bs hb; clear hb; obtain ⟨Z18, Z19, Z20, Z21⟩ := zc2 Z15) | (go_at_call 50; (with_reducible refine (spec_ProbeTubeOk.calls _ _ _ _ _ _ _ ?side1 ?side2 Z9.out).mono ?_); (case side1 => exact sc Z3); (case side2 => exact Z4.out); rintro e Z22 ⟨rfl, hb⟩; replace Z15 := bb (bk Z15) hb; replace HB := bs hb; clear hb; obtain ⟨Z23, Z24, Z25, Z26⟩ := zc2 Z15) | (go_at_call 51; (with_reducible refine (spec_l4With.calls _ _ _ _ _ _ _ _ _ _ ?side1 ?side2 ?side3 ?side4 Z12.out).mono ?_); (case side1 => exact sc Z1); (case side2 => exact Z2.out); (case side3 => exact sc Z3); (case side4 => exact Z4.out); rintro e Z27 ⟨Z28, rfl, Z29, hb⟩; have Z30 := ra (Kd.R_lower Z29 (below_size bq)); replace Z15 := bb (bk Z15) hb; replace HB := bs hb; clear hb Z29; obtain ⟨Z31, Z32, Z33⟩ := Kd.R_slice Z30.out; subst Z33))
   go_ret
   exact ⟨re, bq⟩
  ·obtain rfl := Option.some.inj H
   go_enter Tryz.func26, Tryz.ntmps26
   go_wp2_with (first | ((with_reducible refine gd 3 rfl ?_); (try (refine gate_guard (by rfl) ?_; dsimp only)); refine bd 3 #[.string a1_0, .slice A1_1 l1_1.length c1_1] 33 ?_; intro Z11 Z12 HB Z13 Z14) | ((with_reducible refine gc 48 rfl ?_); refine gy (some 6) Tryz.func48 (spec_ProbeSkyOk.calls _ _ _ _ _ _ (sc Z1) Z2.out Z6.out) ?_; rintro Z15 hb; replace Z13 := bb (bk Z13) hb; replace HB := bs hb; clear hb; obtain ⟨Z16, Z17, Z18, Z19⟩ := zc2 Z13) | (go_at_call 50; (with_reducible refine (spec_ProbeTubeOk.calls _ _ _ _ _ _ _ ?side1 ?side2 Z9.out).mono ?_); (case side1 => exact sc Z3); (case side2 => exact Z4.out); rintro e Z20 ⟨rfl, hb⟩; replace Z13 := bb (bk Z13) hb; replace HB := bs hb; clear hb))
   go_ret
   exact ⟨re, bq⟩
 ·obtain rfl := Option.some.inj H
  go_enter Tryz.func26, Tryz.ntmps26
  go_wp2_with (first | ((with_reducible refine gd 3 rfl ?_); (try (refine gate_guard (by rfl) ?_; dsimp only)); refine bd 3 #[.string a1_0, .slice A1_1 l1_1.length c1_1] 33 ?_; intro Z8 Z9 HB Z10 Z11) | ((with_reducible refine gc 48 rfl ?_); refine gy (some 6) Tryz.func48 (spec_ProbeSkyOk.calls _ _ _ _ _ _ (sc Z1) Z2.out Z6.out) ?_; rintro Z12 hb; replace Z10 := bb (bk Z10) hb; replace HB := bs hb; clear hb))
  go_ret
  exact ⟨re, bq⟩
theorem spec_ProbeWith.calls (k : Nat) (A0 : Option Addr) (c0 : Nat) (l0 : List (S33)) (a1_0 : ByteArray) (A1_1 : Option Addr) (c1_1 : Nat) (l1_1 : List (S46)) (r : List (S70)) (w : World) (hr0 : Kd.C k33 w A0 l0.length l0) (hc0 : l0.length ≤ c0) (hr1_1 : Kd.C k46 w A1_1 l1_1.length l1_1) (hc1_1 : l1_1.length ≤ c1_1) (h : spec_ProbeWith.f k l0 a1_0 l1_1 = some r) :
  Calls Tryz.prog 23 #[.slice A0 l0.length c0, .agg #[.string a1_0, .slice A1_1 l1_1.length c1_1]] w fun e w' => ∃ v0_ : Value, e = .returned (v0_) ∧ Kd.R k70 70 w' w.heap.size (fun _ => True) v0_ r ∧ Below w.heap.size w w' := by
 have Z0 := Tryz.underlying33
 have Z1 := ra hr0
 have Z2 := ra hc0
 clear hr0 hc0
 have Z3 := ra hr1_1
 have Z4 := ra hc1_1
 clear hr1_1 hc1_1
 have HB := ra (Below.refl w.heap.size w)
 have H := h; unfold spec_ProbeWith.f at H
 clear h
 obtain ⟨Z5, Z6, H⟩ := bo H
 rcases ud H with ⟨rfl, Z7⟩ | ⟨rfl, Z7⟩ <;> have H := Z7
 ·obtain ⟨Z8, Z9, H⟩ := bo H
  rcases ud H with ⟨rfl, Z10⟩ | ⟨rfl, Z10⟩ <;> have H := Z10
  ·obtain ⟨Z11, Z12, H⟩ := bo H
   obtain rfl := Option.some.inj H
   go_enter Tryz.func23, Tryz.ntmps23
   go_wp2_with (first | ((with_reducible refine gd 3 rfl ?_); refine bd 3 #[.string a1_0, .slice A1_1 l1_1.length c1_1] 33 ?_; intro Z13 Z14 HB Z15 Z16) | ((with_reducible refine gc 48 rfl ?_); refine gy (some 6) Tryz.func48 (spec_ProbeSkyOk.calls _ _ _ _ _ _ (sc Z1) Z2.out Z6.out) ?_; rintro Z17 hb; replace Z15 := bb (bk Z15) hb; replace HB := bs hb; clear hb; obtain ⟨Z18, Z19, Z20, Z21⟩ := zc2 Z15) | (go_at_call 50; (with_reducible refine (spec_ProbeTubeOk.calls _ _ _ _ _ _ _ ?side1 ?side2 Z9.out).mono ?_); (case side1 => exact sc Z3); (case side2 => exact Z4.out); rintro e Z22 ⟨rfl, hb⟩; replace Z15 := bb (bk Z15) hb; replace HB := bs hb; clear hb; obtain ⟨Z23, Z24, Z25, Z26⟩ := zc2 Z15) | ((with_reducible refine gc 51 rfl ?_); refine gx (some 16) Tryz.func51 (spec_l4With.calls _ _ _ _ _ _ _ _ _ _ (sc Z1) Z2.out (sc Z3) Z4.out Z12.out) ?_; rintro Z27 Z28 ⟨Z29, hb⟩; have Z30 := ra (Kd.R_lower Z29 (below_size bq)); replace Z15 := bb (bk Z15) hb; replace HB := bs hb; clear hb Z29))
   go_ret
   exact ⟨_, re, rq Z30, bq⟩
  ·obtain ⟨Z11, hy_⟩ : ∃ y_ : List (S70), y_ = (([] : List (S70))) := ⟨_, rfl⟩
   replace H : (some Z11) = some r := yh
   have Z12 := ra hy_
   clear hy_
   obtain rfl := Option.some.inj H
   go_enter Tryz.func23, Tryz.ntmps23
   go_wp2_with (first | ((with_reducible refine gd 3 rfl ?_); refine bd 3 #[.string a1_0, .slice A1_1 l1_1.length c1_1] 33 ?_; intro Z13 Z14 HB Z15 Z16) | ((with_reducible refine gc 48 rfl ?_); refine gy (some 6) Tryz.func48 (spec_ProbeSkyOk.calls _ _ _ _ _ _ (sc Z1) Z2.out Z6.out) ?_; rintro Z17 hb; replace Z15 := bb (bk Z15) hb; replace HB := bs hb; clear hb; obtain ⟨Z18, Z19, Z20, Z21⟩ := zc2 Z15) | (go_at_call 50; (with_reducible refine (spec_ProbeTubeOk.calls _ _ _ _ _ _ _ ?side1 ?side2 Z9.out).mono ?_); (case side1 => exact sc Z3); (case side2 => exact Z4.out); rintro e Z22 ⟨rfl, hb⟩; replace Z15 := bb (bk Z15) hb; replace HB := bs hb; clear hb) | ((with_reducible refine gd 13 rfl ?_); refine Kd.R_lit k70 _ 70 ?hg (N := 13) ?hd (xs := ([] : List (S70))) (inner := []) (ok := fun _ => True) (okp := fun _ => True) ?hr ?hp (fun _ hk => hk) trivial (Below.refl _ _) (Nat.le_refl _) (by simp) ?_; (case hd => rfl); (case hg => rfl); (case hr => first | (go_simp; done) | (go_simp; rfl)); (case hp => exact (Reps.none _ _)); intro Z23 Z24 Z25 hb hg_ hnew_; clear hg_ hnew_; (first | rw [← Z12.out] at Z25 | (simp only [Int.reduceToNat] at Z25; rw [← Z12.out] at Z25)); have Z26 := ra (Kd.R_lower Z25 (below_size bq)); replace Z15 := bb (bk Z15) hb; replace HB := bs hb; clear hb Z25))
   go_ret
   exact ⟨_, re, rq Z26, bq⟩
 ·obtain ⟨Z8, hy_⟩ : ∃ y_ : List (S70), y_ = (([] : List (S70))) := ⟨_, rfl⟩
  replace H : (some Z8) = some r := yh
  have Z9 := ra hy_
  clear hy_
  obtain rfl := Option.some.inj H
  go_enter Tryz.func23, Tryz.ntmps23
  go_wp2_with (first | ((with_reducible refine gd 3 rfl ?_); refine bd 3 #[.string a1_0, .slice A1_1 l1_1.length c1_1] 33 ?_; intro Z10 Z11 HB Z12 Z13) | ((with_reducible refine gc 48 rfl ?_); refine gy (some 6) Tryz.func48 (spec_ProbeSkyOk.calls _ _ _ _ _ _ (sc Z1) Z2.out Z6.out) ?_; rintro Z14 hb; replace Z12 := bb (bk Z12) hb; replace HB := bs hb; clear hb) | ((with_reducible refine gd 13 rfl ?_); refine Kd.R_lit k70 _ 70 ?hg (N := 13) ?hd (xs := ([] : List (S70))) (inner := []) (ok := fun _ => True) (okp := fun _ => True) ?hr ?hp (fun _ hk => hk) trivial (Below.refl _ _) (Nat.le_refl _) (by simp) ?_; (case hd => rfl); (case hg => rfl); (case hr => first | (go_simp; done) | (go_simp; rfl)); (case hp => exact (Reps.none _ _)); intro Z15 Z16 Z17 hb hg_ hnew_; clear hg_ hnew_; (first | rw [← Z9.out] at Z17 | (simp only [Int.reduceToNat] at Z17; rw [← Z9.out] at Z17)); have Z18 := ra (Kd.R_lower Z17 (below_size bq)); replace Z12 := bb (bk Z12) hb; replace HB := bs hb; clear hb Z17))
  go_ret
  exact ⟨_, re, rq Z18, bq⟩
end Go.Proofs.YtjelgpmhbaiipaaGreatDoor.PA
end
