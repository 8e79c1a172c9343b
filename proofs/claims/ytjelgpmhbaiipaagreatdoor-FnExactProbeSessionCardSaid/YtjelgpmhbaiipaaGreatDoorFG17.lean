/- Contracts (began as prints of the kit's tool; shortened). No condition beside what the Lean functions say. -/
import Derived.Test.YtjelgpmhbaiipaaGreatDoorFPAd9
import Derived.Test.YtjelgpmhbaiipaaGreatDoorFZCx1
import Derived.Test.YtjelgpmhbaiipaaGreatDoorFZCv2
import Derived.Test.YtjelgpmhbaiipaaGreatDoorFZCy10
import Derived.Test.YtjelgpmhbaiipaaGreatDoorFG11
namespace Go.Proofs.YtjelgpmhbaiipaaGreatDoor.PA
open Go.RowKit Go.Proofs.YtjelgpmhbaiipaaGreatDoorW.PrintWords Go.Proofs.YtjelgpmhbaiipaaGreatDoorW.PrintLast Go.Proofs.YtjelgpmhbaiipaaGreatDoorW.PrintMore Go.Proofs.YtjelgpmhbaiipaaGreatDoor.Z
attribute [local go_sem] max2_int min2_int max_two min_two max_three min_three max_four min_four
set_option linter.unusedVariables false
set_option maxHeartbeats 8000000
set_option maxRecDepth 100000
set_option linter.unusedSimpArgs false
theorem spec_ProbeCut.calls (k : Nat) (a0_0 : ByteArray) (A0_1 : Option Addr) (c0_1 : Nat) (l0_1 : List (S46)) (a1 : Int) (r1 : ByteArray) (r2 : List (S46)) (w : World) (hr0_1 : Kd.C k46 w A0_1 l0_1.length l0_1) (hc0_1 : l0_1.length ≤ c0_1) (h : spec_ProbeCut.f k a0_0 l0_1 a1 = some (r1, r2)) :
  Calls Tryz.prog 25 #[.agg #[.string a0_0, .slice A0_1 l0_1.length c0_1], .int .i64 a1] w fun e w' => ∃ v1_ : Value, e = .returned (.agg #[.string r1, v1_]) ∧ Kd.R k46 46 w' w.heap.size (fun _ => True) v1_ r2 ∧ Below w.heap.size w w' := by
 have Z0 := Tryz.underlying33
 have Z1 := Tryz.underlying46
 have Z2 := ra hr0_1
 have Z3 := ra hc0_1
 clear hr0_1 hc0_1
 have HB := ra (Below.refl w.heap.size w)
 have H := h; unfold spec_ProbeCut.f at H
 clear h
 obtain ⟨Z4, Z5, H⟩ := bo H
 rcases ud H with ⟨rfl, Z6⟩ | ⟨rfl, Z6⟩ <;> have H := Z6
 ·have H' := ra H; clear H
  go_enter Tryz.func25, Tryz.ntmps25
  go_wp2_with (first | ((with_reducible refine gd 2 rfl ?_); refine bd 2 #[.string a0_0, .slice A0_1 l0_1.length c0_1] 33 ?_; intro Z7 Z8 HB Z9 Z10) | ((with_reducible refine gd 4 rfl ?_); refine bf 4 #[.string (⟨#[]⟩ : ByteArray), .slice none 0 0] 33 ?_; intro Z11 Z12 hg hb HB Z13 Z14; have Z15 := bn hg (bk Z9); have Z16 := bm hg (bk Z9); replace Z9 := bb (bk Z9) hb; have Z17 := Z15.out; have Z18 := Z16.out; obtain ⟨Z19, Z20, Z21, Z22⟩ := zc2 Z9; clear hg hb) | ((with_reducible refine gd 5 rfl ?_); refine bf 5 #[.string (⟨#[]⟩ : ByteArray), .slice none 0 0] 33 ?_; intro Z23 Z24 hg hb HB Z25 Z26; have Z27 := bn hg (bk Z9); have Z28 := bm hg (bk Z9); have Z29 := bn hg (bk Z13); have Z30 := bm hg (bk Z13); replace Z9 := bb (bk Z9) hb; replace Z13 := bb (bk Z13) hb; have Z31 := Z28.out; have Z32 := Z27.out; have Z33 := Z30.out; have Z34 := Z29.out; obtain ⟨Z35, Z36, Z37, Z38⟩ := zc2 Z25; obtain ⟨Z39, Z40, Z41, Z42⟩ := zc2 Z9; clear hg hb) | ((with_reducible refine gc 50 rfl ?_); refine gy (some 12) Tryz.func50 (spec_ProbeTubeOk.calls _ _ _ _ _ _ _ (Kd.C_below Z2.out bq) Z3.out Z5.out) ?_; rintro Z43 hb; replace Z9 := bb (bk Z9) hb; replace Z13 := bb (bk Z13) hb; replace Z25 := bb (o := .cells #[.string a0_0, .slice none 0 0] 33 (0, 0)) (bp Z25) hb; replace HB := bs hb; clear hb))
  go_loopg [6] k (fun kq v6 w' => ∃ (x6_1 : Int) (x306001_1 : List (S46)) (u306001 : Value), v6 = .int .i64 x6_1 ∧ Aside0 (spec_ProbeCut.l0 kq a1 x6_1 a0_0 l0_1 a0_0 x306001_1 = some (r1, r2)) ∧ Aside0 (kq ≤ k) ∧ Aside0 (Kd.R k46 46 w' w.heap.size (fun _ => True) u306001 x306001_1) ∧ Aside0 (w'.heap[Z7]? = some (.cells #[.string a0_0, (.slice A0_1 l0_1.length c0_1)] 33 (0, 0))) ∧ Aside0 (w'.heap[Z11]? = some (.cells #[.string (⟨#[]⟩ : ByteArray), (.slice none 0 0)] 33 (0, 0))) ∧ Aside0 (w'.heap[Z23]? = some (.cells #[.string a0_0, u306001] 33 (0, 0))) ∧ Aside0 (Below w.heap.size w w'))
  case atStart => exact ⟨_, _, _, rs, H', ⟨Nat.le_refl _⟩, ⟨by first | exact Kd.R_nil _ _ _ _ _ | exact Kd.N_nil _ _ _ _ _ | exact Kd.V_nil _ _ _ _ _ | exact Kd.Q_nil _ _ _ _ _ | exact Kd.S_nil _ _ _ _ _⟩, ⟨bk Z9⟩, ⟨bk Z13⟩, ⟨bk Z25⟩, ⟨bq⟩⟩
  case round =>
   clear H'
   try clear Z35
   try clear Z36
   try clear Z39
   try clear Z40
   try clear Z19
   try clear Z20
   try clear Z37
   try clear Z38
   try clear Z41
   try clear Z42
   try clear Z21
   try clear Z22
   obtain ⟨Z44, Z45, Z46, rfl, HA, Z47, Z48, Z9, Z13, Z25, HB⟩ := hrel
   cases gk with
   | zero => exact absurd HA.out (by simp [spec_ProbeCut.l0])
   | succ Z49 =>
    have H := HA.out
    clear HA
    simp only [spec_ProbeCut.l0] at H
    rcases td H with ⟨Z50, H⟩ | ⟨Z50, H⟩
    ·obtain ⟨Z51, H⟩ := tn H
     rcases td H with ⟨Z52, H⟩ | ⟨Z52, H⟩
     ·have H' := ra H; clear H
      have Z53 := Z15.out
      have Z54 := Z16.out
      have Z55 := Z27.out
      have Z56 := Z28.out
      obtain ⟨Z57, Z58, Z59, Z60⟩ := zc2 Z9
      have Z61 : 0 ≤ (Z44 : Int) := od
      have Z62 : Z44 < (l0_1.length : Int) := od
      obtain ⟨Z63, Z64, Z65, Z66, Z67, Z68, Z69, Z70⟩ := at_T46 Z2.out Z44 Z61 Z62
      cases Z64
      replace Z65 := hc HB Z65
      replace Z66 := hc HB Z66
      replace Z67 := hc HB Z67
      replace Z68 := hc HB Z68
      replace Z69 := hc HB Z69
      replace Z70 := hc HB Z70
      replace Z61 := eq_true Z61
      replace Z62 := eq_true Z62
      go_wp2_with (first | ((with_reducible refine gd 7 rfl ?_); refine bf 7 #[.int .i64 0, .int .i64 0, .int .i64 0, .int .i64 0, .int .i64 0, .int .i64 0] 46 ?_; intro Z71 Z72 hg hb HB Z73 Z74; have Z75 := bn hg (bk Z9); have Z76 := bm hg (bk Z9); have Z77 := bn hg (bk Z13); have Z78 := bm hg (bk Z13); have Z79 := bn hg (bk Z25); have Z80 := bm hg (bk Z25); replace Z48 := ra (Kd.R_below (Kd.R_elderB (rq Z48) Z71 (Nat.le_of_eq hg.symm)) hb); replace Z9 := bb (bk Z9) hb; replace Z13 := bb (bk Z13) hb; replace Z25 := bb (bk Z25) hb; have Z81 := Z76.out; have Z82 := Z75.out; have Z83 := Z78.out; have Z84 := Z77.out; have Z85 := Z80.out; have Z86 := Z79.out; obtain ⟨Z87, Z88, Z89, Z90, Z91, Z92, Z93, Z94, Z95, Z96, Z97, Z98⟩ := zc6 Z73; clear hg hb))
      go_roundg Z49
      case measure => have := Z47.out; omega
      case rel => exact ⟨_, _, _, rs, H', ⟨by have := Z47.out; omega⟩, ⟨by (with_reducible repeat (first | apply Kd.R_alloc | apply Kd.R_drewN | apply Kd.R_drew)); exact Kd.R_mono (rf (Kd.R_mono Z48.out (fun k_ hk => (⟨hk, hk.2⟩ : _ ∧ k_ ≠ Z71)))) (fun _ hk => trivial)⟩, ⟨bk Z9⟩, ⟨bk Z13⟩, ⟨bk Z25⟩, ⟨bq⟩⟩
     ·rcases td H with ⟨Z53, H⟩ | ⟨Z53, H⟩
      ·by_cases Z54 : Z45.length < 2932031007402
       ·rw [if_pos Z54] at H
        have Z55 := ra Z54; clear Z54
        obtain ⟨Z56, hy_⟩ : ∃ y_ : List (S46), y_ = (Z45 ++ [(⟨(rd_T46 l0_1 Z44).f0, (rd_T46 l0_1 Z44).f1, (rd_T46 l0_1 Z44).f2, (rd_T46 l0_1 Z44).f3, a1, (rd_T46 l0_1 Z44).f5⟩ : S46)]) := ⟨_, rfl⟩
        replace H : (spec_ProbeCut.l0 Z49 a1 (wrap64 (Z44 + 1)) a0_0 l0_1 a0_0 Z56) = some (r1, r2) := yh
        have Z57 := ra hy_
        clear hy_
        have H' := ra H; clear H
        have Z58 := Z15.out
        have Z59 := Z16.out
        have Z60 := Z27.out
        have Z61 := Z28.out
        obtain ⟨Z62, Z63, Z64, Z65⟩ := zc2 Z9
        have Z66 : 0 ≤ (Z44 : Int) := od
        have Z67 : Z44 < (l0_1.length : Int) := od
        obtain ⟨Z68, Z69, Z70, Z71, Z72, Z73, Z74, Z75⟩ := at_T46 Z2.out Z44 Z66 Z67
        cases Z69
        replace Z70 := hc HB Z70
        replace Z71 := hc HB Z71
        replace Z72 := hc HB Z72
        replace Z73 := hc HB Z73
        replace Z74 := hc HB Z74
        replace Z75 := hc HB Z75
        replace Z66 := eq_true Z66
        replace Z67 := eq_true Z67
        go_wp2_with (first | ((with_reducible refine gd 7 rfl ?_); refine bf 7 #[.int .i64 0, .int .i64 0, .int .i64 0, .int .i64 0, .int .i64 0, .int .i64 0] 46 ?_; intro Z76 Z77 hg hb HB Z78 Z79; have Z80 := bn hg (bk Z9); have Z81 := bm hg (bk Z9); have Z82 := bn hg (bk Z13); have Z83 := bm hg (bk Z13); have Z84 := bn hg (bk Z25); have Z85 := bm hg (bk Z25); replace Z48 := ra (Kd.R_below (Kd.R_elderB (rq Z48) Z76 (Nat.le_of_eq hg.symm)) hb); replace Z9 := bb (bk Z9) hb; replace Z13 := bb (bk Z13) hb; replace Z25 := bb (bk Z25) hb; have Z86 := Z81.out; have Z87 := Z80.out; have Z88 := Z83.out; have Z89 := Z82.out; have Z90 := Z85.out; have Z91 := Z84.out; obtain ⟨Z92, Z93, Z94, Z95, Z96, Z97, Z98, Z99, Z100, Z101, Z102, Z103⟩ := zc6 Z78; have Z104 := Z30.out; have Z105 := Z29.out; obtain ⟨Z106, Z107, Z108, Z109⟩ := zc2 Z25; clear hg hb) | ((with_reducible refine gate_store (t := 46) (p := 7) rfl ?_); refine bst #[.int .i64 ((rd_T46 l0_1 Z44).f0), .int .i64 ((rd_T46 l0_1 Z44).f1), .int .i64 ((rd_T46 l0_1 Z44).f2), .int .i64 ((rd_T46 l0_1 Z44).f3), .int .i64 ((rd_T46 l0_1 Z44).f4), .int .i64 ((rd_T46 l0_1 Z44).f5)] Z78 ?_; intro Z110 hbk hg; have Z111 := ra hbk; have Z112 := wg hg Z79; have Z113 := rg (rf Z48.out) hg (fun _ hk => hk.2); have Z114 := bg (bk Z9) hg Z80; have Z115 := bg (bk Z13) hg Z82; have Z116 := bg (bk Z25) hg Z84; clear Z78 HB Z48 Z9 Z13 Z25; have Z78 := Z111; have HB := Z112; have Z48 := Z113; have Z9 := Z114; have Z13 := Z115; have Z25 := Z116; clear hbk hg Z111 Z112 Z113 Z114 Z115 Z116; obtain ⟨Z117, Z118, Z119, Z120, Z121, Z122, Z123, Z124, Z125, Z126, Z127, Z128⟩ := zc6 Z78; obtain ⟨Z129, Z130, Z131, Z132⟩ := zc2 Z25) | ((with_reducible refine gate_store (t := 3) (p := 36) rfl ?_); refine bst #[.int .i64 ((rd_T46 l0_1 Z44).f0), .int .i64 ((rd_T46 l0_1 Z44).f1), .int .i64 ((rd_T46 l0_1 Z44).f2), .int .i64 ((rd_T46 l0_1 Z44).f3), .int .i64 a1, .int .i64 ((rd_T46 l0_1 Z44).f5)] Z78 ?_; intro Z133 hbk hg; have Z111 := ra hbk; have Z112 := wg hg Z79; have Z113 := rg (rf Z48.out) hg (fun _ hk => hk.2); have Z114 := bg (bk Z9) hg Z80; have Z115 := bg (bk Z13) hg Z82; have Z116 := bg (bk Z25) hg Z84; clear Z78 HB Z48 Z9 Z13 Z25; have Z78 := Z111; have HB := Z112; have Z48 := Z113; have Z9 := Z114; have Z13 := Z115; have Z25 := Z116; clear hbk hg Z111 Z112 Z113 Z114 Z115 Z116; obtain ⟨Z117, Z118, Z119, Z120, Z121, Z122, Z123, Z124, Z125, Z126, Z127, Z128⟩ := zc6 Z78; obtain ⟨Z129, Z130, Z131, Z132⟩ := zc2 Z25) | ((with_reducible refine gate_builtin (b := .append) (xs := #[.tmp 38, .tmp 40]) rfl ?_); at_builtin; refine Kd.R_append k46 (w0 := w) w.heap.size rfl (.tmp 38) (.tmp 40) 31 46 (.agg #[(.int .i64 0), (.int .i64 0), (.int .i64 0), (.int .i64 0), (.int .i64 0), (.int .i64 0)]) 48 rfl Tryz.underlying31 info46 rfl (by decide) (by omega) Z46 Z45 (⟨(rd_T46 l0_1 Z44).f0, (rd_T46 l0_1 Z44).f1, (rd_T46 l0_1 Z44).f2, (rd_T46 l0_1 Z44).f3, a1, (rd_T46 l0_1 Z44).f5⟩ : S46) [.int .i64 ((rd_T46 l0_1 Z44).f0), .int .i64 ((rd_T46 l0_1 Z44).f1), .int .i64 ((rd_T46 l0_1 Z44).f2), .int .i64 ((rd_T46 l0_1 Z44).f3), .int .i64 a1, .int .i64 ((rd_T46 l0_1 Z44).f5)] (fun k_ => k_ ≠ Z76) (fun _ => False) rfl (by first | (go_simp; done) | (go_simp; rfl)) ?aP (fun _ hk => hk.elim) ?aF ?aO ?aB ?aS ?aL ?_; (case aP => exact k46_mkM _ _ _ (⟨(rd_T46 l0_1 Z44).f0, (rd_T46 l0_1 Z44).f1, (rd_T46 l0_1 Z44).f2, (rd_T46 l0_1 Z44).f3, a1, (rd_T46 l0_1 Z44).f5⟩ : S46)); (case aB => exact bq); (case aF => exact (fun k_ hk => Kd.freshB (g := Z76) (o := .cells #[.int .i64 ((rd_T46 l0_1 Z44).f0), .int .i64 ((rd_T46 l0_1 Z44).f1), .int .i64 ((rd_T46 l0_1 Z44).f2), .int .i64 ((rd_T46 l0_1 Z44).f3), .int .i64 a1, .int .i64 ((rd_T46 l0_1 Z44).f5)] 46 (0, 0)) (bp Z78) k_ hk)); (case aO => exact (by (with_reducible repeat (first | apply Kd.R_alloc | apply Kd.R_drewN | apply Kd.R_drew)); exact Kd.R_mono (rf (Kd.R_mono Z48.out (fun k_ hk => (⟨hk, hk.2⟩ : _ ∧ k_ ≠ Z76)))) (fun _ hk => hk.1.2))); (case aS => exact (below_size bq)); (case aL => have := Z55.out; omega); intro Z134 Z135 ho hb hg hat; rw [← Z57.out] at ho; have _ := ra (blk_grown (g := Z7) (o := .cells #[.string a0_0, .slice (some Z68) l0_1.length c0_1] 33 (0, 0)) (bk Z9) hg (Kd.R_ne Z48.out Z9.out (by decide))); have _ := ra (blk_grown (g := Z11) (o := .cells #[.string (⟨#[]⟩ : ByteArray), .slice none 0 0] 33 (0, 0)) (bk Z13) hg (Kd.R_ne Z48.out Z13.out (by decide))); have _ := ra (blk_grown (g := Z23) (o := .cells #[.string a0_0, Z46] 33 (0, 0)) (bk Z25) hg (Kd.R_ne Z48.out Z25.out (by decide))); have _ := ra (blk_grown (g := Z76) (o := .cells #[.int .i64 ((rd_T46 l0_1 Z44).f0), .int .i64 ((rd_T46 l0_1 Z44).f1), .int .i64 ((rd_T46 l0_1 Z44).f2), .int .i64 ((rd_T46 l0_1 Z44).f3), .int .i64 a1, .int .i64 ((rd_T46 l0_1 Z44).f5)] 46 (0, 0)) (bp Z78) hg (Kd.R_away Z48.out (fun _ hk => hk.2))); have _ := ra (hb); have _ := ra (ho); clear Z9 Z13 Z25 Z78 HB Z48; rename_i Z9 Z13 Z25 Z78 HB Z136; clear ho hb hg hat; obtain ⟨Z137, Z138, Z139⟩ := Kd.R_slice Z136.out; subst Z139; obtain ⟨Z140, Z141, Z142, Z143⟩ := zc2 Z25))
        go_roundg Z49
        case measure => have := Z47.out; omega
        case rel => exact ⟨_, _, _, rs, H', ⟨by have := Z47.out; omega⟩, ⟨by (with_reducible repeat (first | apply Kd.R_alloc | apply Kd.R_drewN | apply Kd.R_drew)); exact Kd.R_mono (rf (Kd.R_types Z136.out Z25.out (by decide))) (fun _ hk => trivial)⟩, ⟨bk Z9⟩, ⟨bk Z13⟩, ⟨bp Z25⟩, ⟨bq⟩⟩
       ·rw [if_neg Z54] at H
        exact absurd H (by simp)
      ·by_cases Z54 : Z45.length < 2932031007402
       ·rw [if_pos Z54] at H
        have Z55 := ra Z54; clear Z54
        obtain ⟨Z56, hy_⟩ : ∃ y_ : List (S46), y_ = (Z45 ++ [(⟨(rd_T46 l0_1 Z44).f0, (rd_T46 l0_1 Z44).f1, (rd_T46 l0_1 Z44).f2, (rd_T46 l0_1 Z44).f3, (rd_T46 l0_1 Z44).f4, (rd_T46 l0_1 Z44).f5⟩ : S46)]) := ⟨_, rfl⟩
        replace H : (spec_ProbeCut.l0 Z49 a1 (wrap64 (Z44 + 1)) a0_0 l0_1 a0_0 Z56) = some (r1, r2) := yh
        have Z57 := ra hy_
        clear hy_
        have H' := ra H; clear H
        have Z58 := Z15.out
        have Z59 := Z16.out
        have Z60 := Z27.out
        have Z61 := Z28.out
        obtain ⟨Z62, Z63, Z64, Z65⟩ := zc2 Z9
        have Z66 : 0 ≤ (Z44 : Int) := od
        have Z67 : Z44 < (l0_1.length : Int) := od
        obtain ⟨Z68, Z69, Z70, Z71, Z72, Z73, Z74, Z75⟩ := at_T46 Z2.out Z44 Z66 Z67
        cases Z69
        replace Z70 := hc HB Z70
        replace Z71 := hc HB Z71
        replace Z72 := hc HB Z72
        replace Z73 := hc HB Z73
        replace Z74 := hc HB Z74
        replace Z75 := hc HB Z75
        replace Z66 := eq_true Z66
        replace Z67 := eq_true Z67
        go_wp2_with (first | ((with_reducible refine gd 7 rfl ?_); refine bf 7 #[.int .i64 0, .int .i64 0, .int .i64 0, .int .i64 0, .int .i64 0, .int .i64 0] 46 ?_; intro Z76 Z77 hg hb HB Z78 Z79; have Z80 := bn hg (bk Z9); have Z81 := bm hg (bk Z9); have Z82 := bn hg (bk Z13); have Z83 := bm hg (bk Z13); have Z84 := bn hg (bk Z25); have Z85 := bm hg (bk Z25); replace Z48 := ra (Kd.R_below (Kd.R_elderB (rq Z48) Z76 (Nat.le_of_eq hg.symm)) hb); replace Z9 := bb (bk Z9) hb; replace Z13 := bb (bk Z13) hb; replace Z25 := bb (bk Z25) hb; have Z86 := Z81.out; have Z87 := Z80.out; have Z88 := Z83.out; have Z89 := Z82.out; have Z90 := Z85.out; have Z91 := Z84.out; obtain ⟨Z92, Z93, Z94, Z95, Z96, Z97, Z98, Z99, Z100, Z101, Z102, Z103⟩ := zc6 Z78; have Z104 := Z30.out; have Z105 := Z29.out; obtain ⟨Z106, Z107, Z108, Z109⟩ := zc2 Z25; clear hg hb) | ((with_reducible refine gate_store (t := 46) (p := 7) rfl ?_); refine bst #[.int .i64 ((rd_T46 l0_1 Z44).f0), .int .i64 ((rd_T46 l0_1 Z44).f1), .int .i64 ((rd_T46 l0_1 Z44).f2), .int .i64 ((rd_T46 l0_1 Z44).f3), .int .i64 ((rd_T46 l0_1 Z44).f4), .int .i64 ((rd_T46 l0_1 Z44).f5)] Z78 ?_; intro Z110 hbk hg; have Z111 := ra hbk; have Z112 := wg hg Z79; have Z113 := rg (rf Z48.out) hg (fun _ hk => hk.2); have Z114 := bg (bk Z9) hg Z80; have Z115 := bg (bk Z13) hg Z82; have Z116 := bg (bk Z25) hg Z84; clear Z78 HB Z48 Z9 Z13 Z25; have Z78 := Z111; have HB := Z112; have Z48 := Z113; have Z9 := Z114; have Z13 := Z115; have Z25 := Z116; clear hbk hg Z111 Z112 Z113 Z114 Z115 Z116; obtain ⟨Z117, Z118, Z119, Z120, Z121, Z122, Z123, Z124, Z125, Z126, Z127, Z128⟩ := zc6 Z78; obtain ⟨Z129, Z130, Z131, Z132⟩ := zc2 Z25) | ((with_reducible refine gate_builtin (b := .append) (xs := #[.tmp 38, .tmp 40]) rfl ?_); at_builtin; refine Kd.R_append k46 (w0 := w) w.heap.size rfl (.tmp 38) (.tmp 40) 31 46 (.agg #[(.int .i64 0), (.int .i64 0), (.int .i64 0), (.int .i64 0), (.int .i64 0), (.int .i64 0)]) 48 rfl Tryz.underlying31 info46 rfl (by decide) (by omega) Z46 Z45 (⟨(rd_T46 l0_1 Z44).f0, (rd_T46 l0_1 Z44).f1, (rd_T46 l0_1 Z44).f2, (rd_T46 l0_1 Z44).f3, (rd_T46 l0_1 Z44).f4, (rd_T46 l0_1 Z44).f5⟩ : S46) [.int .i64 ((rd_T46 l0_1 Z44).f0), .int .i64 ((rd_T46 l0_1 Z44).f1), .int .i64 ((rd_T46 l0_1 Z44).f2), .int .i64 ((rd_T46 l0_1 Z44).f3), .int .i64 ((rd_T46 l0_1 Z44).f4), .int .i64 ((rd_T46 l0_1 Z44).f5)] (fun k_ => k_ ≠ Z76) (fun _ => False) rfl (by first | (go_simp; done) | (go_simp; rfl)) ?aP (fun _ hk => hk.elim) ?aF ?aO ?aB ?aS ?aL ?_; (case aP => exact k46_mkM _ _ _ (⟨(rd_T46 l0_1 Z44).f0, (rd_T46 l0_1 Z44).f1, (rd_T46 l0_1 Z44).f2, (rd_T46 l0_1 Z44).f3, (rd_T46 l0_1 Z44).f4, (rd_T46 l0_1 Z44).f5⟩ : S46)); (case aB => exact bq); (case aF => exact (fun k_ hk => Kd.freshB (g := Z76) (o := .cells #[.int .i64 ((rd_T46 l0_1 Z44).f0), .int .i64 ((rd_T46 l0_1 Z44).f1), .int .i64 ((rd_T46 l0_1 Z44).f2), .int .i64 ((rd_T46 l0_1 Z44).f3), .int .i64 ((rd_T46 l0_1 Z44).f4), .int .i64 ((rd_T46 l0_1 Z44).f5)] 46 (0, 0)) (bp Z78) k_ hk)); (case aO => exact (by (with_reducible repeat (first | apply Kd.R_alloc | apply Kd.R_drewN | apply Kd.R_drew)); exact Kd.R_mono (rf (Kd.R_mono Z48.out (fun k_ hk => (⟨hk, hk.2⟩ : _ ∧ k_ ≠ Z76)))) (fun _ hk => hk.1.2))); (case aS => exact (below_size bq)); (case aL => have := Z55.out; omega); intro Z133 Z134 ho hb hg hat; rw [← Z57.out] at ho; have _ := ra (blk_grown (g := Z7) (o := .cells #[.string a0_0, .slice (some Z68) l0_1.length c0_1] 33 (0, 0)) (bk Z9) hg (Kd.R_ne Z48.out Z9.out (by decide))); have _ := ra (blk_grown (g := Z11) (o := .cells #[.string (⟨#[]⟩ : ByteArray), .slice none 0 0] 33 (0, 0)) (bk Z13) hg (Kd.R_ne Z48.out Z13.out (by decide))); have _ := ra (blk_grown (g := Z23) (o := .cells #[.string a0_0, Z46] 33 (0, 0)) (bk Z25) hg (Kd.R_ne Z48.out Z25.out (by decide))); have _ := ra (blk_grown (g := Z76) (o := .cells #[.int .i64 ((rd_T46 l0_1 Z44).f0), .int .i64 ((rd_T46 l0_1 Z44).f1), .int .i64 ((rd_T46 l0_1 Z44).f2), .int .i64 ((rd_T46 l0_1 Z44).f3), .int .i64 ((rd_T46 l0_1 Z44).f4), .int .i64 ((rd_T46 l0_1 Z44).f5)] 46 (0, 0)) (bp Z78) hg (Kd.R_away Z48.out (fun _ hk => hk.2))); have _ := ra (hb); have _ := ra (ho); clear Z9 Z13 Z25 Z78 HB Z48; rename_i Z9 Z13 Z25 Z78 HB Z135; clear ho hb hg hat; obtain ⟨Z136, Z137, Z138⟩ := Kd.R_slice Z135.out; subst Z138; obtain ⟨Z139, Z140, Z141, Z142⟩ := zc2 Z25))
        go_roundg Z49
        case measure => have := Z47.out; omega
        case rel => exact ⟨_, _, _, rs, H', ⟨by have := Z47.out; omega⟩, ⟨by (with_reducible repeat (first | apply Kd.R_alloc | apply Kd.R_drewN | apply Kd.R_drew)); exact Kd.R_mono (rf (Kd.R_types Z135.out Z25.out (by decide))) (fun _ hk => trivial)⟩, ⟨bk Z9⟩, ⟨bk Z13⟩, ⟨bp Z25⟩, ⟨bq⟩⟩
       ·rw [if_neg Z54] at H
        exact absurd H (by simp)
    ·simp only [Option.some.injEq, Prod.mk.injEq] at H
     obtain ⟨rfl, rfl⟩ := H
     have Z51 := Z15.out
     have Z52 := Z16.out
     have Z53 := Z27.out
     have Z54 := Z28.out
     obtain ⟨Z55, Z56, Z57, Z58⟩ := zc2 Z9
     have Z59 := Z30.out
     have Z60 := Z29.out
     obtain ⟨Z61, Z62, Z63, Z64⟩ := zc2 Z25
     obtain ⟨Z65, Z66, Z67, Z68⟩ := zc2 Z13
     obtain ⟨Z69, Z70, Z71⟩ := Kd.R_slice Z48.out
     subst Z71
     go_wp2
     refine bodyPost_ret (results_cell_row rfl _ _ Z11 33 #[.string a0_0, .slice Z69 Z45.length Z70] (0, 0) _ rfl (bp Z13) Tryz.underlying33 rfl (by kernel_rfl)) rfl ?_
     exact ⟨_, re, by (with_reducible repeat (first | apply Kd.R_alloc | apply Kd.R_drewN | apply Kd.R_drew)); exact Kd.R_mono (rf (Kd.R_types Z48.out Z13.out (by decide))) (fun _ hk => trivial), bq⟩
 ·simp only [Option.some.injEq, Prod.mk.injEq] at H
  obtain ⟨rfl, rfl⟩ := H
  go_enter Tryz.func25, Tryz.ntmps25
  go_wp2_with (first | ((with_reducible refine gd 2 rfl ?_); refine bd 2 #[.string a0_0, .slice A0_1 l0_1.length c0_1] 33 ?_; intro Z7 Z8 HB Z9 Z10) | ((with_reducible refine gd 4 rfl ?_); refine bf 4 #[.string (⟨#[]⟩ : ByteArray), .slice none 0 0] 33 ?_; intro Z11 Z12 hg hb HB Z13 Z14; have Z15 := bn hg (bk Z9); have Z16 := bm hg (bk Z9); replace Z9 := bb (bk Z9) hb; have Z17 := Z15.out; have Z18 := Z16.out; obtain ⟨Z19, Z20, Z21, Z22⟩ := zc2 Z9; clear hg hb) | ((with_reducible refine gd 5 rfl ?_); refine bf 5 #[.string (⟨#[]⟩ : ByteArray), .slice none 0 0] 33 ?_; intro Z23 Z24 hg hb HB Z25 Z26; have Z27 := bn hg (bk Z9); have Z28 := bm hg (bk Z9); have Z29 := bn hg (bk Z13); have Z30 := bm hg (bk Z13); replace Z9 := bb (bk Z9) hb; replace Z13 := bb (bk Z13) hb; have Z31 := Z28.out; have Z32 := Z27.out; have Z33 := Z30.out; have Z34 := Z29.out; obtain ⟨Z35, Z36, Z37, Z38⟩ := zc2 Z25; obtain ⟨Z39, Z40, Z41, Z42⟩ := zc2 Z9; clear hg hb) | ((with_reducible refine gc 50 rfl ?_); refine gy (some 12) Tryz.func50 (spec_ProbeTubeOk.calls _ _ _ _ _ _ _ (Kd.C_below Z2.out bq) Z3.out Z5.out) ?_; rintro Z43 hb; replace Z9 := bb (bk Z9) hb; replace Z13 := bb (bk Z13) hb; replace Z25 := bb (o := .cells #[.string a0_0, .slice none 0 0] 33 (0, 0)) (bp Z25) hb; replace HB := bs hb; clear hb; obtain ⟨Z44, Z45, Z46, Z47⟩ := zc2 Z13))
  refine bodyPost_ret (results_cell_row rfl _ _ Z11 33 #[.string (⟨#[]⟩ : ByteArray), .slice none 0 0] (0, 0) _ rfl (bp Z13) Tryz.underlying33 rfl (by kernel_rfl)) rfl ?_
  exact ⟨_, re, by first | exact Kd.R_nil _ _ _ _ _ | exact Kd.N_nil _ _ _ _ _ | exact Kd.V_nil _ _ _ _ _ | exact Kd.Q_nil _ _ _ _ _ | exact Kd.S_nil _ _ _ _ _, bq⟩
theorem impl_ProbeCut.calls (k : Nat) (a0_0 : ByteArray) (A0_1 : Option Addr) (c0_1 : Nat) (l0_1 : List (S46)) (a1 : Int) (r1 : ByteArray) (r2 : List (S46)) (w : World) (hr0_1 : Kd.C k46 w A0_1 l0_1.length l0_1) (hc0_1 : l0_1.length ≤ c0_1) (h : impl_ProbeCut.f k a0_0 l0_1 a1 = some (r1, r2)) :
  Calls Tryz.prog 40 #[.agg #[.string a0_0, .slice A0_1 l0_1.length c0_1], .int .i64 a1] w fun e w' => ∃ v1_ : Value, e = .returned (.agg #[.string r1, v1_]) ∧ Kd.R k46 46 w' w.heap.size (fun _ => True) v1_ r2 ∧ Below w.heap.size w w' := by
 have Z0 := Tryz.underlying33
 have Z1 := Tryz.underlying46
 have Z2 := ra hr0_1
 have Z3 := ra hc0_1
 clear hr0_1 hc0_1
 have HB := ra (Below.refl w.heap.size w)
 have H := h; unfold impl_ProbeCut.f at H
 clear h
 obtain ⟨Z4, Z5, H⟩ := bo H
 rcases ud H with ⟨rfl, Z6⟩ | ⟨rfl, Z6⟩ <;> have H := Z6
 ·have H' := ra H; clear H
  go_enter Tryz.func40, Tryz.ntmps40
  go_wp2_with (first | ((with_reducible refine gd 2 rfl ?_); refine bd 2 #[.string a0_0, .slice A0_1 l0_1.length c0_1] 33 ?_; intro Z7 Z8 HB Z9 Z10) | ((with_reducible refine gd 4 rfl ?_); refine bf 4 #[.string (⟨#[]⟩ : ByteArray), .slice none 0 0] 33 ?_; intro Z11 Z12 hg hb HB Z13 Z14; have Z15 := bn hg (bk Z9); have Z16 := bm hg (bk Z9); replace Z9 := bb (bk Z9) hb; have Z17 := Z15.out; have Z18 := Z16.out; obtain ⟨Z19, Z20, Z21, Z22⟩ := zc2 Z9; clear hg hb) | ((with_reducible refine gc 61 rfl ?_); refine gy (some 9) Tryz.func61 (impl_ProbeTubeOk.calls _ _ _ _ _ _ _ (sc Z2) Z3.out Z5.out) ?_; rintro Z23 hb; replace Z9 := bb (bk Z9) hb; replace Z13 := bb (bk Z13) hb; replace HB := bs hb; clear hb; obtain ⟨Z24, Z25, Z26, Z27⟩ := zc2 Z9) | ((with_reducible refine gd 5 rfl ?_); refine bf 5 #[.string (⟨#[]⟩ : ByteArray), .slice none 0 0] 33 ?_; intro Z28 Z29 hg hb HB Z30 Z31; have Z32 := bn hg (bk Z9); have Z33 := bm hg (bk Z9); have Z34 := bn hg (bk Z13); have Z35 := bm hg (bk Z13); replace Z9 := bb (bk Z9) hb; replace Z13 := bb (bk Z13) hb; have Z36 := Z33.out; have Z37 := Z32.out; have Z38 := Z35.out; have Z39 := Z34.out; obtain ⟨Z40, Z41, Z42, Z43⟩ := zc2 Z30; obtain ⟨Z44, Z45, Z46, Z47⟩ := zc2 Z9; clear hg hb))
  go_loopg [18] k (fun kq v18 w' => ∃ (x18_1 : Int) (x544001_1 : List (S46)) (u544001 : Value), v18 = .int .i64 x18_1 ∧ Aside0 (impl_ProbeCut.l0 kq a1 l0_1 (l0_1.length : Int) x18_1 a0_0 x544001_1 = some (r1, r2)) ∧ Aside0 (kq ≤ k) ∧ Aside0 (Kd.R k46 46 w' w.heap.size (fun _ => True) u544001 x544001_1) ∧ Aside0 (w'.heap[Z7]? = some (.cells #[.string a0_0, (.slice A0_1 l0_1.length c0_1)] 33 (0, 0))) ∧ Aside0 (w'.heap[Z11]? = some (.cells #[.string (⟨#[]⟩ : ByteArray), (.slice none 0 0)] 33 (0, 0))) ∧ Aside0 (w'.heap[Z28]? = some (.cells #[.string a0_0, u544001] 33 (0, 0))) ∧ Aside0 (Below w.heap.size w w'))
  case atStart => exact ⟨_, _, _, rs, H', ⟨Nat.le_refl _⟩, ⟨by first | exact Kd.R_nil _ _ _ _ _ | exact Kd.N_nil _ _ _ _ _ | exact Kd.V_nil _ _ _ _ _ | exact Kd.Q_nil _ _ _ _ _ | exact Kd.S_nil _ _ _ _ _⟩, ⟨bk Z9⟩, ⟨bk Z13⟩, ⟨bp Z30⟩, ⟨bq⟩⟩
  case round =>
   clear H'
   try clear Z24
   try clear Z25
   try clear Z40
   try clear Z41
   try clear Z44
   try clear Z45
   try clear Z19
   try clear Z20
   try clear Z26
   try clear Z27
   try clear Z42
   try clear Z43
   try clear Z46
   try clear Z47
   try clear Z21
   try clear Z22
   obtain ⟨Z48, Z49, Z50, rfl, HA, Z51, Z52, Z9, Z13, Z30, HB⟩ := hrel
   cases gk with
   | zero => exact absurd HA.out (by simp [impl_ProbeCut.l0])
   | succ Z53 =>
    have H := HA.out
    clear HA
    simp only [impl_ProbeCut.l0] at H
    rcases td H with ⟨Z54, H⟩ | ⟨Z54, H⟩
    ·obtain ⟨Z55, H⟩ := tn H
     obtain ⟨Z56, H⟩ := tn H
     rcases td H with ⟨Z57, H⟩ | ⟨Z57, H⟩
     ·obtain ⟨Z58, Z59⟩ : ∃ j_ : Int, (mx ((rd_T46 l0_1 Z48).f4) a1) = j_ := ⟨_, rfl⟩
      replace H : (if Z49.length < 2932031007402 then (impl_ProbeCut.l0 Z53 a1 l0_1 (l0_1.length : Int) (wrap64 (Z48 + 1)) a0_0 (Z49 ++ [(⟨(rd_T46 l0_1 Z48).f0, (rd_T46 l0_1 Z48).f1, (rd_T46 l0_1 Z48).f2, (rd_T46 l0_1 Z48).f3, Z58, (rd_T46 l0_1 Z48).f5⟩ : S46)])) else (none)) = some (r1, r2) := by first | (rw [Z59] at H; exact H) | (simp only [Z59] at H ⊢; exact H)
      have Z60 : (if ((rd_T46 l0_1 Z48).f4) < a1 then a1 else ((rd_T46 l0_1 Z48).f4)) = Z58 := Z59
      by_cases Z61 : Z49.length < 2932031007402
      ·rw [if_pos Z61] at H
       have Z62 := ra Z61; clear Z61
       obtain ⟨Z63, hy_⟩ : ∃ y_ : List (S46), y_ = (Z49 ++ [(⟨(rd_T46 l0_1 Z48).f0, (rd_T46 l0_1 Z48).f1, (rd_T46 l0_1 Z48).f2, (rd_T46 l0_1 Z48).f3, Z58, (rd_T46 l0_1 Z48).f5⟩ : S46)]) := ⟨_, rfl⟩
       replace H : (impl_ProbeCut.l0 Z53 a1 l0_1 (l0_1.length : Int) (wrap64 (Z48 + 1)) a0_0 Z63) = some (r1, r2) := yh
       have Z64 := ra hy_
       clear hy_
       have H' := ra H; clear H
       have Z65 : 0 ≤ (Z48 : Int) := od
       have Z66 : Z48 < (l0_1.length : Int) := od
       obtain ⟨Z67, Z68, Z69, Z70, Z71, Z72, Z73, Z74⟩ := at_T46 Z2.out Z48 Z65 Z66
       cases Z68
       replace Z69 := hc HB Z69
       replace Z70 := hc HB Z70
       replace Z71 := hc HB Z71
       replace Z72 := hc HB Z72
       replace Z73 := hc HB Z73
       replace Z74 := hc HB Z74
       replace Z65 := eq_true Z65
       replace Z66 := eq_true Z66
       go_wp2_with (first | ((with_reducible refine gd 7 rfl ?_); refine bf 7 #[.int .i64 0, .int .i64 0, .int .i64 0, .int .i64 0, .int .i64 0, .int .i64 0] 46 ?_; intro Z75 Z76 hg hb HB Z77 Z78; have Z79 := bn hg (bk Z9); have Z80 := bm hg (bk Z9); have Z81 := bn hg (bk Z13); have Z82 := bm hg (bk Z13); have Z83 := bn hg (bk Z30); have Z84 := bm hg (bk Z30); replace Z52 := ra (Kd.R_below (Kd.R_elderB (rq Z52) Z75 (Nat.le_of_eq hg.symm)) hb); replace Z9 := bb (bk Z9) hb; replace Z13 := bb (bk Z13) hb; replace Z30 := bb (bk Z30) hb; have Z85 := Z80.out; have Z86 := Z79.out; have Z87 := Z82.out; have Z88 := Z81.out; have Z89 := Z84.out; have Z90 := Z83.out; obtain ⟨Z91, Z92, Z93, Z94, Z95, Z96, Z97, Z98, Z99, Z100, Z101, Z102⟩ := zc6 Z77; have Z103 := Z33.out; have Z104 := Z32.out; have Z105 := Z35.out; have Z106 := Z34.out; obtain ⟨Z107, Z108, Z109, Z110⟩ := zc2 Z30; clear hg hb) | ((with_reducible refine gate_store (t := 46) (p := 7) rfl ?_); refine bst #[.int .i64 ((rd_T46 l0_1 Z48).f0), .int .i64 ((rd_T46 l0_1 Z48).f1), .int .i64 ((rd_T46 l0_1 Z48).f2), .int .i64 ((rd_T46 l0_1 Z48).f3), .int .i64 ((rd_T46 l0_1 Z48).f4), .int .i64 ((rd_T46 l0_1 Z48).f5)] Z77 ?_; intro Z111 hbk hg; have Z112 := ra hbk; have Z113 := wg hg Z78; have Z114 := rg (rf Z52.out) hg (fun _ hk => hk.2); have Z115 := bg (bk Z9) hg Z79; have Z116 := bg (bk Z13) hg Z81; have Z117 := bg (bk Z30) hg Z83; clear Z77 HB Z52 Z9 Z13 Z30; have Z77 := Z112; have HB := Z113; have Z52 := Z114; have Z9 := Z115; have Z13 := Z116; have Z30 := Z117; clear hbk hg Z112 Z113 Z114 Z115 Z116 Z117; obtain ⟨Z118, Z119, Z120, Z121, Z122, Z123, Z124, Z125, Z126, Z127, Z128, Z129⟩ := zc6 Z77; obtain ⟨Z130, Z131, Z132, Z133⟩ := zc2 Z30) | ((with_reducible refine gate_store (t := 3) (p := 30) rfl ?_); refine bst #[.int .i64 ((rd_T46 l0_1 Z48).f0), .int .i64 ((rd_T46 l0_1 Z48).f1), .int .i64 ((rd_T46 l0_1 Z48).f2), .int .i64 ((rd_T46 l0_1 Z48).f3), .int .i64 Z58, .int .i64 ((rd_T46 l0_1 Z48).f5)] Z77 ?_; intro Z134 hbk hg; have Z112 := ra hbk; have Z113 := wg hg Z78; have Z114 := rg (rf Z52.out) hg (fun _ hk => hk.2); have Z115 := bg (bk Z9) hg Z79; have Z116 := bg (bk Z13) hg Z81; have Z117 := bg (bk Z30) hg Z83; clear Z77 HB Z52 Z9 Z13 Z30; have Z77 := Z112; have HB := Z113; have Z52 := Z114; have Z9 := Z115; have Z13 := Z116; have Z30 := Z117; clear hbk hg Z112 Z113 Z114 Z115 Z116 Z117; obtain ⟨Z118, Z119, Z120, Z121, Z122, Z123, Z124, Z125, Z126, Z127, Z128, Z129⟩ := zc6 Z77; obtain ⟨Z130, Z131, Z132, Z133⟩ := zc2 Z30) | ((with_reducible refine gate_builtin (b := .append) (xs := #[.tmp 32, .tmp 34]) rfl ?_); at_builtin; refine Kd.R_append k46 (w0 := w) w.heap.size rfl (.tmp 32) (.tmp 34) 31 46 (.agg #[(.int .i64 0), (.int .i64 0), (.int .i64 0), (.int .i64 0), (.int .i64 0), (.int .i64 0)]) 48 rfl Tryz.underlying31 info46 rfl (by decide) (by omega) Z50 Z49 (⟨(rd_T46 l0_1 Z48).f0, (rd_T46 l0_1 Z48).f1, (rd_T46 l0_1 Z48).f2, (rd_T46 l0_1 Z48).f3, Z58, (rd_T46 l0_1 Z48).f5⟩ : S46) [.int .i64 ((rd_T46 l0_1 Z48).f0), .int .i64 ((rd_T46 l0_1 Z48).f1), .int .i64 ((rd_T46 l0_1 Z48).f2), .int .i64 ((rd_T46 l0_1 Z48).f3), .int .i64 Z58, .int .i64 ((rd_T46 l0_1 Z48).f5)] (fun k_ => k_ ≠ Z75) (fun _ => False) rfl (by first | (go_simp; done) | (go_simp; rfl)) ?aP (fun _ hk => hk.elim) ?aF ?aO ?aB ?aS ?aL ?_; (case aP => exact k46_mkM _ _ _ (⟨(rd_T46 l0_1 Z48).f0, (rd_T46 l0_1 Z48).f1, (rd_T46 l0_1 Z48).f2, (rd_T46 l0_1 Z48).f3, Z58, (rd_T46 l0_1 Z48).f5⟩ : S46)); (case aB => exact bq); (case aF => exact (fun k_ hk => Kd.freshB (g := Z75) (o := .cells #[.int .i64 ((rd_T46 l0_1 Z48).f0), .int .i64 ((rd_T46 l0_1 Z48).f1), .int .i64 ((rd_T46 l0_1 Z48).f2), .int .i64 ((rd_T46 l0_1 Z48).f3), .int .i64 Z58, .int .i64 ((rd_T46 l0_1 Z48).f5)] 46 (0, 0)) (bp Z77) k_ hk)); (case aO => exact (by (with_reducible repeat (first | apply Kd.R_alloc | apply Kd.R_drewN | apply Kd.R_drew)); exact Kd.R_mono (rf (Kd.R_mono Z52.out (fun k_ hk => (⟨hk, hk.2⟩ : _ ∧ k_ ≠ Z75)))) (fun _ hk => hk.1.2))); (case aS => exact (below_size bq)); (case aL => have := Z62.out; omega); intro Z135 Z136 ho hb hg hat; rw [← Z64.out] at ho; have _ := ra (blk_grown (g := Z7) (o := .cells #[.string a0_0, .slice (some Z67) l0_1.length c0_1] 33 (0, 0)) (bk Z9) hg (Kd.R_ne Z52.out Z9.out (by decide))); have _ := ra (blk_grown (g := Z11) (o := .cells #[.string (⟨#[]⟩ : ByteArray), .slice none 0 0] 33 (0, 0)) (bk Z13) hg (Kd.R_ne Z52.out Z13.out (by decide))); have _ := ra (blk_grown (g := Z28) (o := .cells #[.string a0_0, Z50] 33 (0, 0)) (bk Z30) hg (Kd.R_ne Z52.out Z30.out (by decide))); have _ := ra (blk_grown (g := Z75) (o := .cells #[.int .i64 ((rd_T46 l0_1 Z48).f0), .int .i64 ((rd_T46 l0_1 Z48).f1), .int .i64 ((rd_T46 l0_1 Z48).f2), .int .i64 ((rd_T46 l0_1 Z48).f3), .int .i64 Z58, .int .i64 ((rd_T46 l0_1 Z48).f5)] 46 (0, 0)) (bp Z77) hg (Kd.R_away Z52.out (fun _ hk => hk.2))); have _ := ra (hb); have _ := ra (ho); clear Z9 Z13 Z30 Z77 HB Z52; rename_i Z9 Z13 Z30 Z77 HB Z137; clear ho hb hg hat; obtain ⟨Z138, Z139, Z140⟩ := Kd.R_slice Z137.out; subst Z140; obtain ⟨Z141, Z142, Z143, Z144⟩ := zc2 Z30))
       go_roundg Z53
       case measure => have := Z51.out; omega
       case rel => exact ⟨_, _, _, rs, H', ⟨by have := Z51.out; omega⟩, ⟨by (with_reducible repeat (first | apply Kd.R_alloc | apply Kd.R_drewN | apply Kd.R_drew)); exact Kd.R_mono (rf (Kd.R_types Z137.out Z30.out (by decide))) (fun _ hk => trivial)⟩, ⟨bk Z9⟩, ⟨bk Z13⟩, ⟨bp Z30⟩, ⟨bq⟩⟩
      ·rw [if_neg Z61] at H
       exact absurd H (by simp)
     ·have H' := ra H; clear H
      have Z58 : 0 ≤ (Z48 : Int) := od
      have Z59 : Z48 < (l0_1.length : Int) := od
      obtain ⟨Z60, Z61, Z62, Z63, Z64, Z65, Z66, Z67⟩ := at_T46 Z2.out Z48 Z58 Z59
      cases Z61
      replace Z62 := hc HB Z62
      replace Z63 := hc HB Z63
      replace Z64 := hc HB Z64
      replace Z65 := hc HB Z65
      replace Z66 := hc HB Z66
      replace Z67 := hc HB Z67
      replace Z58 := eq_true Z58
      replace Z59 := eq_true Z59
      go_wp2_with (first | ((with_reducible refine gd 7 rfl ?_); refine bf 7 #[.int .i64 0, .int .i64 0, .int .i64 0, .int .i64 0, .int .i64 0, .int .i64 0] 46 ?_; intro Z68 Z69 hg hb HB Z70 Z71; have Z72 := bn hg (bk Z9); have Z73 := bm hg (bk Z9); have Z74 := bn hg (bk Z13); have Z75 := bm hg (bk Z13); have Z76 := bn hg (bk Z30); have Z77 := bm hg (bk Z30); replace Z52 := ra (Kd.R_below (Kd.R_elderB (rq Z52) Z68 (Nat.le_of_eq hg.symm)) hb); replace Z9 := bb (bk Z9) hb; replace Z13 := bb (bk Z13) hb; replace Z30 := bb (bk Z30) hb; have Z78 := Z73.out; have Z79 := Z72.out; have Z80 := Z75.out; have Z81 := Z74.out; have Z82 := Z77.out; have Z83 := Z76.out; obtain ⟨Z84, Z85, Z86, Z87, Z88, Z89, Z90, Z91, Z92, Z93, Z94, Z95⟩ := zc6 Z70; clear hg hb))
      go_roundg Z53
      case measure => have := Z51.out; omega
      case rel => exact ⟨_, _, _, rs, H', ⟨by have := Z51.out; omega⟩, ⟨by (with_reducible repeat (first | apply Kd.R_alloc | apply Kd.R_drewN | apply Kd.R_drew)); exact Kd.R_mono (rf (Kd.R_mono Z52.out (fun k_ hk => (⟨hk, hk.2⟩ : _ ∧ k_ ≠ Z68)))) (fun _ hk => trivial)⟩, ⟨bk Z9⟩, ⟨bk Z13⟩, ⟨bk Z30⟩, ⟨bq⟩⟩
    ·simp only [Option.some.injEq, Prod.mk.injEq] at H
     obtain ⟨rfl, rfl⟩ := H
     have Z55 := Z33.out
     have Z56 := Z32.out
     have Z57 := Z35.out
     have Z58 := Z34.out
     obtain ⟨Z59, Z60, Z61, Z62⟩ := zc2 Z30
     have Z63 := Z16.out
     have Z64 := Z15.out
     obtain ⟨Z65, Z66, Z67, Z68⟩ := zc2 Z13
     obtain ⟨Z69, Z70, Z71⟩ := Kd.R_slice Z52.out
     subst Z71
     go_wp2
     refine bodyPost_ret (results_cell_row rfl _ _ Z11 33 #[.string a0_0, .slice Z69 Z49.length Z70] (0, 0) _ rfl (bp Z13) Tryz.underlying33 rfl (by kernel_rfl)) rfl ?_
     exact ⟨_, re, by (with_reducible repeat (first | apply Kd.R_alloc | apply Kd.R_drewN | apply Kd.R_drew)); exact Kd.R_mono (rf (Kd.R_types Z52.out Z13.out (by decide))) (fun _ hk => trivial), bq⟩
 ·simp only [Option.some.injEq, Prod.mk.injEq] at H
  obtain ⟨rfl, rfl⟩ := H
  go_enter Tryz.func40, Tryz.ntmps40
  go_wp2_with (first | ((with_reducible refine gd 2 rfl ?_); refine bd 2 #[.string a0_0, .slice A0_1 l0_1.length c0_1] 33 ?_; intro Z7 Z8 HB Z9 Z10) | ((with_reducible refine gd 4 rfl ?_); refine bf 4 #[.string (⟨#[]⟩ : ByteArray), .slice none 0 0] 33 ?_; intro Z11 Z12 hg hb HB Z13 Z14; have Z15 := bn hg (bk Z9); have Z16 := bm hg (bk Z9); replace Z9 := bb (bk Z9) hb; have Z17 := Z15.out; have Z18 := Z16.out; obtain ⟨Z19, Z20, Z21, Z22⟩ := zc2 Z9; clear hg hb) | ((with_reducible refine gc 61 rfl ?_); refine gy (some 9) Tryz.func61 (impl_ProbeTubeOk.calls _ _ _ _ _ _ _ (sc Z2) Z3.out Z5.out) ?_; rintro Z23 hb; replace Z9 := bb (bk Z9) hb; replace Z13 := bb (bk Z13) hb; replace HB := bs hb; clear hb; obtain ⟨Z24, Z25, Z26, Z27⟩ := zc2 Z13))
  refine bodyPost_ret (results_cell_row rfl _ _ Z11 33 #[.string (⟨#[]⟩ : ByteArray), .slice none 0 0] (0, 0) _ rfl (bp Z13) Tryz.underlying33 rfl (by kernel_rfl)) rfl ?_
  exact ⟨_, re, by first | exact Kd.R_nil _ _ _ _ _ | exact Kd.N_nil _ _ _ _ _ | exact Kd.V_nil _ _ _ _ _ | exact Kd.Q_nil _ _ _ _ _ | exact Kd.S_nil _ _ _ _ _, bq⟩
end Go.Proofs.YtjelgpmhbaiipaaGreatDoor.PA
