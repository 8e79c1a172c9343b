/- Walks of the session's methods. No condition beside what the Lean functions say. -/
import Derived.Test.YtjelgpmhbaiipaaGreatDoorFZCv2
import Derived.Test.YtjelgpmhbaiipaaGreatDoorFS8
import Derived.Test.YtjelgpmhbaiipaaGreatDoorFS18
import Derived.Test.YtjelgpmhbaiipaaGreatDoorFG19
section
namespace Go.Proofs.YtjelgpmhbaiipaaGreatDoor.PA
open Go.RowKit Go.Proofs.YtjelgpmhbaiipaaGreatDoorW.PrintWords Go.Proofs.YtjelgpmhbaiipaaGreatDoorW.PrintLast Go.Proofs.YtjelgpmhbaiipaaGreatDoorW.PrintMore Go.Proofs.YtjelgpmhbaiipaaGreatDoor.Z
attribute [local go_sem] max2_int min2_int max_two min_two max_three min_three max_four min_four
set_option linter.unusedVariables false
set_option linter.unusedSimpArgs false
def Sn.trim (ls : List ByteArray) : List ByteArray := if (rdOf ByteArray.empty ls ((ls.length - 1 : Nat) : Int)).toList = ([] : List UInt8) then ls.take (ls.length - 1) else ls
theorem Sn.rd_str {ls : List ByteArray} {i : Nat} (h : i < ls.length) : rdOf ByteArray.empty ls (i : Int) = ls[i] := by
 unfold rdOf
 simp [List.getD, h]
end Go.Proofs.YtjelgpmhbaiipaaGreatDoor.PA
end
section
namespace Go.Proofs.YtjelgpmhbaiipaaGreatDoor.PA
open Go.RowKit Go.Proofs.YtjelgpmhbaiipaaGreatDoorW.PrintWords Go.Proofs.YtjelgpmhbaiipaaGreatDoorW.PrintLast Go.Proofs.YtjelgpmhbaiipaaGreatDoorW.PrintMore Go.Proofs.YtjelgpmhbaiipaaGreatDoor.Z
attribute [local go_sem] max2_int min2_int max_two min_two max_three min_three max_four min_four
set_option linter.unusedVariables false
set_option maxHeartbeats 8000000
set_option maxRecDepth 100000
set_option linter.unusedSimpArgs false
def spec_s_run.f (k : Nat) : List ByteArray → Sx → ByteArray → Option ByteArray
 | [], _, out => some out
 | l :: ls, st, out => (spec_l7Cut.f k l 32).bind fun ws => (spec_s_line.f k st ws).bind fun pr => if out.size + pr.1.size ≤ 9223372036854775807 ∧ out.size + pr.1.size + 1 ≤ 9223372036854775807 then spec_s_run.f k ls pr.2 (out ++ pr.1 ++ (⟨#[10]⟩ : ByteArray)) else none
def spec_ProbeSession.f (k : Nat) (text : ByteArray) : Option ByteArray := (spec_l7Cut.f k text 10).bind fun ls0 => if 0 < ls0.length then (if 20000 < text.size ∨ 400 < (Sn.trim ls0).length then some (⟨#[116, 111, 111, 32, 108, 111, 110, 103, 10]⟩ : ByteArray) else spec_s_run.f k (Sn.trim ls0) (([], (⟨#[]⟩ : ByteArray), []) : Sx) (⟨#[]⟩ : ByteArray)) else none
theorem spec_ProbeSession.calls (k : Nat) (text r : ByteArray) (w : World) (hWG : Lb.WG w) (h : spec_ProbeSession.f k text = some r) :
  Calls Tryz.prog 5 #[.string text] w fun e w' => e = .returned (.string r) ∧ Below w.heap.size w w' := by
 unfold spec_ProbeSession.f at h
 obtain ⟨Z0, hs, h⟩ := Option.bind_eq_some_iff.1 h
 by_cases Z1 : 0 < Z0.length
 rotate_left
 ·rw [if_neg Z1] at h; cases h
 rw [if_pos Z1] at h
 obtain ⟨m, hm⟩ : ∃ m, Z0.length = m + 1 := ⟨Z0.length - 1, by omega⟩
 have Z2 : Z0.length - 1 = m := by omega
 have Z3 := Tryz.underlying35; have Z4 := Tryz.underlying33
 have HS := ra hs; have HWG := ra hWG; have HB := ra (Below.refl w.heap.size w); have HM := ra hm
 clear hs hWG
 have Z5 : (0 : Int) ≤ (m : Int) := by omega
 have Z6 : (m : Int) < (Z0.length : Int) := by omega
 have fw : ∀ x : Nat, Z0.length ≤ x → Z0.length ≤ 9223372036854775807 → wrap64 ((Z0.length : Int) - 1) = (m : Int) := by intro x _ _; unfold wrap64; omega
 by_cases he : (rdOf ByteArray.empty Z0 (m : Int)).toList = ([] : List UInt8)
 ·have ht : Sn.trim Z0 = Z0.take m := by unfold Sn.trim; rw [Z2, if_pos he]
  rw [ht] at h
  clear ht
  rw [show (Z0.take m).length = m from by rw [List.length_take]; omega] at h
  by_cases cz : 20000 < text.size
  ·rw [if_pos (Or.inl cz)] at h
   obtain rfl := Option.some.inj h
   have ce : ((rdOf ByteArray.empty Z0 (m : Int)).toList == []) = true := beq_iff_eq.mpr he
   have cs : decide ((20000 : Int) < (text.size : Int)) = true := decide_eq_true (by omega)
   replace Z5 := eq_true Z5; replace Z6 := eq_true Z6
   clear he h
   clear hm Z2 cz
   go_enter Tryz.func5, Tryz.ntmps5
   go_wp2_with (first | ((with_reducible refine gc 8 rfl ?_); refine gm (some 8) Tryz.func8 (spec_l7Cut.calls _ _ _ _ _ HS.out) ?_; rintro e Z7 ⟨Z8, rfl, Z9, hb⟩; obtain ⟨Al, cl, rfl, hll, hCl⟩ := Kd.R_reads Z9; refine ⟨_, rfl, ?_⟩; have Z10 := ra hb; have Z11 := ra (Lb.wg_below HWG.out hb); clear HB HWG; have HB := ra (Below.refl Z7.heap.size Z7); obtain ⟨adl, el, Z12⟩ := Kd.at_string hCl (m : Int) (by omega) (by have := HM.out; omega); cases el; simp only [Int.toNat_natCast] at Z12; have hfw := fw cl hll (Kd.C_max hCl); have HR := ra hCl; have HLL := ra hll; clear hb Z9 hCl hll fw; obtain ⟨Z13, Z14, _, hsz_, _⟩ := info_parts info9; have hcut := cut_to (P := Tryz.prog) 27 9 .i64 Tryz.underlying27 Z14 (some adl) Z0.length cl (m : Int) (by omega) (by have := HM.out; omega) HLL.out; simp only [Int.toNat_natCast] at hcut))
   go_ret
   exact ⟨re, below_step Z10.out bq⟩
  by_cases cm : 400 < m
  ·rw [if_pos (Or.inr cm)] at h
   obtain rfl := Option.some.inj h
   have ce : ((rdOf ByteArray.empty Z0 (m : Int)).toList == []) = true := beq_iff_eq.mpr he
   have cs : decide ((20000 : Int) < (text.size : Int)) = false := decide_eq_false (by omega)
   have cn : decide ((400 : Int) < (m : Int)) = true := decide_eq_true (by omega)
   replace Z5 := eq_true Z5; replace Z6 := eq_true Z6
   clear he h
   clear hm Z2 cz cm
   go_enter Tryz.func5, Tryz.ntmps5
   go_wp2_with (first | ((with_reducible refine gc 8 rfl ?_); refine gm (some 8) Tryz.func8 (spec_l7Cut.calls _ _ _ _ _ HS.out) ?_; rintro e Z7 ⟨Z8, rfl, Z9, hb⟩; obtain ⟨Al, cl, rfl, hll, hCl⟩ := Kd.R_reads Z9; refine ⟨_, rfl, ?_⟩; have Z10 := ra hb; have Z11 := ra (Lb.wg_below HWG.out hb); clear HB HWG; have HB := ra (Below.refl Z7.heap.size Z7); obtain ⟨adl, el, Z12⟩ := Kd.at_string hCl (m : Int) (by omega) (by have := HM.out; omega); cases el; simp only [Int.toNat_natCast] at Z12; have hfw := fw cl hll (Kd.C_max hCl); have HR := ra hCl; have HLL := ra hll; clear hb Z9 hCl hll fw; obtain ⟨Z13, Z14, _, hsz_, _⟩ := info_parts info9; have hcut := cut_to (P := Tryz.prog) 27 9 .i64 Tryz.underlying27 Z14 (some adl) Z0.length cl (m : Int) (by omega) (by have := HM.out; omega) HLL.out; simp only [Int.toNat_natCast] at hcut))
   go_ret
   exact ⟨re, below_step Z10.out bq⟩
  rw [if_neg (by omega)] at h
  have ce : ((rdOf ByteArray.empty Z0 (m : Int)).toList == []) = true := beq_iff_eq.mpr he
  have cs : decide ((20000 : Int) < (text.size : Int)) = false := decide_eq_false (by omega)
  have cn : decide ((400 : Int) < (m : Int)) = false := decide_eq_false (by omega)
  replace Z5 := eq_true Z5; replace Z6 := eq_true Z6
  have HRUN := ra h
  clear he h
  clear hm Z2 cz cm
  go_enter Tryz.func5, Tryz.ntmps5
  go_wp2_with (first | ((with_reducible refine gc 8 rfl ?_); refine gm (some 8) Tryz.func8 (spec_l7Cut.calls _ _ _ _ _ HS.out) ?_; rintro e Z7 ⟨Z8, rfl, Z9, hb⟩; obtain ⟨Al, cl, rfl, hll, hCl⟩ := Kd.R_reads Z9; refine ⟨_, rfl, ?_⟩; have Z10 := ra hb; have Z11 := ra (Lb.wg_below HWG.out hb); clear HB HWG; have HB := ra (Below.refl Z7.heap.size Z7); obtain ⟨adl, el, Z12⟩ := Kd.at_string hCl (m : Int) (by omega) (by have := HM.out; omega); cases el; simp only [Int.toNat_natCast] at Z12; have hfw := fw cl hll (Kd.C_max hCl); have HR := ra hCl; have HLL := ra hll; clear hb Z9 hCl hll fw; obtain ⟨Z13, Z14, _, hsz_, _⟩ := info_parts info9; have hcut := cut_to (P := Tryz.prog) 27 9 .i64 Tryz.underlying27 Z14 (some adl) Z0.length cl (m : Int) (by omega) (by have := HM.out; omega) HLL.out; simp only [Int.toNat_natCast] at hcut) | ((with_reducible refine gd 30 rfl ?_); refine be 30 #[.slice none 0 0, .string (⟨#[]⟩ : ByteArray), .slice none 0 0] 35 ?_; intro g hg Z15 hbox hb; have BKg := ra hbox; have GEg := bz (w0 := Z7) hg; replace HB := bs hb; clear hb hbox hg))
  clear Z12
  have hlen : m = (Z0.take m).length := by rw [List.length_take]; have := HM.out; omega
  have HLEN := ra hlen
  have hrow := Kd.C_take (m := m) HR.out (by have := HM.out; omega)
  obtain ⟨ls, hls⟩ : ∃ ls, ls = (Z0.take m) := ⟨_, rfl⟩
  rw [← hls] at hrow hlen HLEN HRUN
  have HROW := ra hrow
  clear hrow HR hls hlen
  go_loopg [5, 6] m (fun kq v5 v6 w' => ∃ (i : Nat) (out : ByteArray) (s1 : List S33) (s2 : ByteArray) (s3 : List S46), v6 = .int .i64 (i : Int) ∧ v5 = .string out ∧ Aside0 (i + kq = m) ∧ Aside0 (spec_s_run.f k (ls.drop i) (s1, s2, s3) out = some r) ∧ Aside0 (St 35 w' Z7.heap.size g s1 s2 s3) ∧ Aside0 (Below Z7.heap.size Z7 w'))
  case atStart => exact ⟨0, (⟨#[]⟩ : ByteArray), [], (⟨#[]⟩ : ByteArray), [], rfl, rfl, ⟨by simp⟩, ⟨HRUN.out⟩, ⟨Sn.mk (bk BKg) (Kd.S_nil _ _ _ _ _) (Kd.R_nil _ _ _ _ _) GEg.out⟩, ⟨bq⟩⟩
  case round =>
   clear BKg HRUN HB
   obtain ⟨i, out, Z16, Z17, Z18, rfl, rfl, HI, HRUN, HST, HB⟩ := hrel
   rcases Nat.lt_or_ge i m with hi | hi
   ·have hil : i < ls.length := by have := HLEN.out; omega
    have h := HRUN.out
    rw [List.drop_eq_getElem_cons hil, ← Sn.rd_str hil] at h
    unfold spec_s_run.f at h
    obtain ⟨ws, Z19, h⟩ := Option.bind_eq_some_iff.1 h
    obtain ⟨⟨a, st'⟩, ha, h⟩ := Option.bind_eq_some_iff.1 h
    dsimp only at h
    by_cases hz : out.size + a.size ≤ 9223372036854775807 ∧ out.size + a.size + 1 ≤ 9223372036854775807
    rotate_left
    ·rw [if_neg hz] at h; cases h
    rw [if_pos hz] at h
    have Z20 := eq_true hz.1
    have Z21 := eq_true hz.2
    have Z22 : (9223372036854775807 < out.size + a.size) = False := eq_false (Nat.not_lt.2 hz.1)
    have Z23 : (9223372036854775807 < out.size + a.size + 1) = False := eq_false (Nat.not_lt.2 hz.2)
    have HA := ra ha
    have Z24 := ra Z19
    have HRN := ra h
    clear HRUN ha h hz Z19
    have Z25 : decide ((i : Int) < (m : Int)) = true := decide_eq_true (by omega)
    have Z26 : (0 ≤ (i : Int)) = True := eq_true (by omega)
    have Z27 : ((i : Int) < (m : Int)) = True := eq_true (by omega)
    have hrw := HROW.out
    obtain ⟨_, el, Z28⟩ := Kd.at_string hrw (i : Int) (by omega) (by have := HLEN.out; omega)
    cases el
    replace Z28 := hc HB Z28
    simp only [Int.toNat_natCast] at Z28
    clear hrw
    have HIL := ra hi
    clear hi hil
    go_wp2_with (first | ((with_reducible refine gc 8 rfl ?_); refine gm (some 43) Tryz.func8 (spec_l7Cut.calls _ _ _ _ _ Z24.out) ?_; rintro e Z29 ⟨Z30, rfl, Z31, hb⟩; obtain ⟨Aq, cq, rfl, hlq, hCq⟩ := Kd.R_reads Z31; refine ⟨_, rfl, ?_⟩; have HCQ := ra hCq; have HLQ := ra hlq; have _ := ra (Sn.stB HST.out hb); have _ := ra (below_step HB.out hb); clear HST HB Z28 Z31 hCq hlq hb; rename_i HST HB) | ((with_reducible refine gc 9 rfl ?_); refine gy (some 44) Tryz.func9 (spec_s_line.calls _ _ _ _ _ _ _ _ _ _ _ _ HB.out Z11.out HST.out HCQ.out HLQ.out HA.out) ?_; rintro Z32 ⟨hst, hb⟩; clear HST HB HCQ HLQ; have HST := ra hst; have HB := ra hb; clear hst hb))
    go_roundg (gk - 1)
    case measure => have := HI.out; have := HIL.out; omega
    case rel => exact ⟨i + 1, out ++ a ++ (⟨#[10]⟩ : ByteArray), st'.1, st'.2.1, st'.2.2, by (have Z33 : wrap64 ((i : Int) + 1) = ((i + 1 : Nat) : Int) := by (have := HIL.out; have := HLEN.out; have := Kd.C_max HROW.out; unfold wrap64; omega)); first | exact Z33 ▸ rfl | (simp [Z33]; done) | (rw [Z33]), rfl, ⟨by have := HI.out; have := HIL.out; omega⟩, ⟨HRN.out⟩, ⟨HST.out⟩, ⟨HB.out⟩⟩
   ·have Z19 : decide ((i : Int) < (m : Int)) = false := decide_eq_false (by omega)
    have h := HRUN.out
    rw [List.drop_eq_nil_of_le (by have := HLEN.out; omega)] at h
    unfold spec_s_run.f at h
    obtain rfl := Option.some.inj h
    clear HRUN h
    go_wp2
    go_ret
    exact ⟨re, below_step Z10.out bq⟩
 ·have ht : Sn.trim Z0 = Z0 := by unfold Sn.trim; rw [Z2, if_neg he]
  rw [ht] at h
  clear ht
  by_cases cz : 20000 < text.size
  ·rw [if_pos (Or.inl cz)] at h
   obtain rfl := Option.some.inj h
   have ce : ((rdOf ByteArray.empty Z0 (m : Int)).toList == []) = false := beq_eq_false_iff_ne.mpr he
   have cs : decide ((20000 : Int) < (text.size : Int)) = true := decide_eq_true (by omega)
   replace Z5 := eq_true Z5; replace Z6 := eq_true Z6
   clear he h
   clear hm Z2 cz
   go_enter Tryz.func5, Tryz.ntmps5
   go_wp2_with (first | ((with_reducible refine gc 8 rfl ?_); refine gm (some 8) Tryz.func8 (spec_l7Cut.calls _ _ _ _ _ HS.out) ?_; rintro e Z7 ⟨Z8, rfl, Z9, hb⟩; obtain ⟨Al, cl, rfl, hll, hCl⟩ := Kd.R_reads Z9; refine ⟨_, rfl, ?_⟩; have Z10 := ra hb; have Z11 := ra (Lb.wg_below HWG.out hb); clear HB HWG; have HB := ra (Below.refl Z7.heap.size Z7); obtain ⟨adl, el, Z12⟩ := Kd.at_string hCl (m : Int) (by omega) (by have := HM.out; omega); cases el; simp only [Int.toNat_natCast] at Z12; have hfw := fw cl hll (Kd.C_max hCl); have HR := ra hCl; have HLL := ra hll; clear hb Z9 hCl hll fw; skip))
   go_ret
   exact ⟨re, below_step Z10.out bq⟩
  by_cases cm : 400 < Z0.length
  ·rw [if_pos (Or.inr cm)] at h
   obtain rfl := Option.some.inj h
   have ce : ((rdOf ByteArray.empty Z0 (m : Int)).toList == []) = false := beq_eq_false_iff_ne.mpr he
   have cs : decide ((20000 : Int) < (text.size : Int)) = false := decide_eq_false (by omega)
   have cn : decide ((400 : Int) < (Z0.length : Int)) = true := decide_eq_true (by omega)
   replace Z5 := eq_true Z5; replace Z6 := eq_true Z6
   clear he h
   clear hm Z2 cz cm
   go_enter Tryz.func5, Tryz.ntmps5
   go_wp2_with (first | ((with_reducible refine gc 8 rfl ?_); refine gm (some 8) Tryz.func8 (spec_l7Cut.calls _ _ _ _ _ HS.out) ?_; rintro e Z7 ⟨Z8, rfl, Z9, hb⟩; obtain ⟨Al, cl, rfl, hll, hCl⟩ := Kd.R_reads Z9; refine ⟨_, rfl, ?_⟩; have Z10 := ra hb; have Z11 := ra (Lb.wg_below HWG.out hb); clear HB HWG; have HB := ra (Below.refl Z7.heap.size Z7); obtain ⟨adl, el, Z12⟩ := Kd.at_string hCl (m : Int) (by omega) (by have := HM.out; omega); cases el; simp only [Int.toNat_natCast] at Z12; have hfw := fw cl hll (Kd.C_max hCl); have HR := ra hCl; have HLL := ra hll; clear hb Z9 hCl hll fw; skip))
   go_ret
   exact ⟨re, below_step Z10.out bq⟩
  rw [if_neg (by omega)] at h
  have ce : ((rdOf ByteArray.empty Z0 (m : Int)).toList == []) = false := beq_eq_false_iff_ne.mpr he
  have cs : decide ((20000 : Int) < (text.size : Int)) = false := decide_eq_false (by omega)
  have cn : decide ((400 : Int) < (Z0.length : Int)) = false := decide_eq_false (by omega)
  replace Z5 := eq_true Z5; replace Z6 := eq_true Z6
  have HRUN := ra h
  clear he h
  clear hm Z2 cz cm
  go_enter Tryz.func5, Tryz.ntmps5
  go_wp2_with (first | ((with_reducible refine gc 8 rfl ?_); refine gm (some 8) Tryz.func8 (spec_l7Cut.calls _ _ _ _ _ HS.out) ?_; rintro e Z7 ⟨Z8, rfl, Z9, hb⟩; obtain ⟨Al, cl, rfl, hll, hCl⟩ := Kd.R_reads Z9; refine ⟨_, rfl, ?_⟩; have Z10 := ra hb; have Z11 := ra (Lb.wg_below HWG.out hb); clear HB HWG; have HB := ra (Below.refl Z7.heap.size Z7); obtain ⟨adl, el, Z12⟩ := Kd.at_string hCl (m : Int) (by omega) (by have := HM.out; omega); cases el; simp only [Int.toNat_natCast] at Z12; have hfw := fw cl hll (Kd.C_max hCl); have HR := ra hCl; have HLL := ra hll; clear hb Z9 hCl hll fw; skip) | ((with_reducible refine gd 30 rfl ?_); refine be 30 #[.slice none 0 0, .string (⟨#[]⟩ : ByteArray), .slice none 0 0] 35 ?_; intro g hg Z13 hbox hb; have BKg := ra hbox; have GEg := bz (w0 := Z7) hg; replace HB := bs hb; clear hb hbox hg))
  clear Z12
  have hlen : Z0.length = Z0.length := by rfl
  have HLEN := ra hlen
  have hrow := HR.out
  have HROW := ra hrow
  clear hrow HR hlen
  go_loopg [5, 6] Z0.length (fun kq v5 v6 w' => ∃ (i : Nat) (out : ByteArray) (s1 : List S33) (s2 : ByteArray) (s3 : List S46), v6 = .int .i64 (i : Int) ∧ v5 = .string out ∧ Aside0 (i + kq = Z0.length) ∧ Aside0 (spec_s_run.f k (Z0.drop i) (s1, s2, s3) out = some r) ∧ Aside0 (St 35 w' Z7.heap.size g s1 s2 s3) ∧ Aside0 (Below Z7.heap.size Z7 w'))
  case atStart => exact ⟨0, (⟨#[]⟩ : ByteArray), [], (⟨#[]⟩ : ByteArray), [], rfl, rfl, ⟨by simp⟩, ⟨HRUN.out⟩, ⟨Sn.mk (bk BKg) (Kd.S_nil _ _ _ _ _) (Kd.R_nil _ _ _ _ _) GEg.out⟩, ⟨bq⟩⟩
  case round =>
   clear BKg HRUN HB
   obtain ⟨i, out, Z14, Z15, Z16, rfl, rfl, HI, HRUN, HST, HB⟩ := hrel
   rcases Nat.lt_or_ge i Z0.length with hi | hi
   ·have hil : i < Z0.length := by have := HLEN.out; omega
    have h := HRUN.out
    rw [List.drop_eq_getElem_cons hil, ← Sn.rd_str hil] at h
    unfold spec_s_run.f at h
    obtain ⟨ws, Z17, h⟩ := Option.bind_eq_some_iff.1 h
    obtain ⟨⟨a, st'⟩, ha, h⟩ := Option.bind_eq_some_iff.1 h
    dsimp only at h
    by_cases hz : out.size + a.size ≤ 9223372036854775807 ∧ out.size + a.size + 1 ≤ 9223372036854775807
    rotate_left
    ·rw [if_neg hz] at h; cases h
    rw [if_pos hz] at h
    have Z18 := eq_true hz.1
    have Z19 := eq_true hz.2
    have Z20 : (9223372036854775807 < out.size + a.size) = False := eq_false (Nat.not_lt.2 hz.1)
    have Z21 : (9223372036854775807 < out.size + a.size + 1) = False := eq_false (Nat.not_lt.2 hz.2)
    have HA := ra ha
    have Z22 := ra Z17
    have HRN := ra h
    clear HRUN ha h hz Z17
    have Z23 : decide ((i : Int) < (Z0.length : Int)) = true := decide_eq_true (by omega)
    have Z24 : (0 ≤ (i : Int)) = True := eq_true (by omega)
    have Z25 : ((i : Int) < (Z0.length : Int)) = True := eq_true (by omega)
    have hrw := HROW.out
    obtain ⟨_, el, Z26⟩ := Kd.at_string hrw (i : Int) (by omega) (by have := HLEN.out; omega)
    cases el
    replace Z26 := hc HB Z26
    simp only [Int.toNat_natCast] at Z26
    clear hrw
    have HIL := ra hi
    clear hi hil
    go_wp2_with (first | ((with_reducible refine gc 8 rfl ?_); refine gm (some 43) Tryz.func8 (spec_l7Cut.calls _ _ _ _ _ Z22.out) ?_; rintro e Z27 ⟨Z28, rfl, Z29, hb⟩; obtain ⟨Aq, cq, rfl, hlq, hCq⟩ := Kd.R_reads Z29; refine ⟨_, rfl, ?_⟩; have HCQ := ra hCq; have HLQ := ra hlq; have _ := ra (Sn.stB HST.out hb); have _ := ra (below_step HB.out hb); clear HST HB Z26 Z29 hCq hlq hb; rename_i HST HB) | ((with_reducible refine gc 9 rfl ?_); refine gy (some 44) Tryz.func9 (spec_s_line.calls _ _ _ _ _ _ _ _ _ _ _ _ HB.out Z11.out HST.out HCQ.out HLQ.out HA.out) ?_; rintro Z30 ⟨hst, hb⟩; clear HST HB HCQ HLQ; have HST := ra hst; have HB := ra hb; clear hst hb))
    go_roundg (gk - 1)
    case measure => have := HI.out; have := HIL.out; omega
    case rel => exact ⟨i + 1, out ++ a ++ (⟨#[10]⟩ : ByteArray), st'.1, st'.2.1, st'.2.2, by (have Z31 : wrap64 ((i : Int) + 1) = ((i + 1 : Nat) : Int) := by (have := HIL.out; have := HLEN.out; have := Kd.C_max HROW.out; unfold wrap64; omega)); first | exact Z31 ▸ rfl | (simp [Z31]; done) | (rw [Z31]), rfl, ⟨by have := HI.out; have := HIL.out; omega⟩, ⟨HRN.out⟩, ⟨HST.out⟩, ⟨HB.out⟩⟩
   ·have Z17 : decide ((i : Int) < (Z0.length : Int)) = false := decide_eq_false (by omega)
    have h := HRUN.out
    rw [List.drop_eq_nil_of_le (by have := HLEN.out; omega)] at h
    unfold spec_s_run.f at h
    obtain rfl := Option.some.inj h
    clear HRUN h
    go_wp2
    go_ret
    exact ⟨re, below_step Z10.out bq⟩
end Go.Proofs.YtjelgpmhbaiipaaGreatDoor.PA
end
