/- Walks of the session's methods. No condition beside what the Lean functions say. -/
import Derived.Test.YtjelgpmhbaiipaaGreatDoorFZCv2
import Derived.Test.YtjelgpmhbaiipaaGreatDoorFS12
import Derived.Test.YtjelgpmhbaiipaaGreatDoorFG13
import Derived.Test.YtjelgpmhbaiipaaGreatDoorFG11
import Derived.Test.YtjelgpmhbaiipaaGreatDoorFW3
section
namespace Go.Proofs.YtjelgpmhbaiipaaGreatDoor.PA
open Go.RowKit Go.Proofs.YtjelgpmhbaiipaaGreatDoorW.PrintWords Go.Proofs.YtjelgpmhbaiipaaGreatDoorW.PrintLast Go.Proofs.YtjelgpmhbaiipaaGreatDoorW.PrintMore Go.Proofs.YtjelgpmhbaiipaaGreatDoor.Z
attribute [local go_sem] max2_int min2_int max_two min_two max_three min_three max_four min_four
set_option linter.unusedVariables false
set_option linter.unusedSimpArgs false
def spec_s_box.f (st : Sx) (ns : List Int) : Option (ByteArray × Sx) := if 6 ≤ ns.length then (spec_ProbeBoxOk.f (rd ns 0) (rd ns 1) (rd ns 2) (rd ns 3) (rd ns 4) (rd ns 5)).bind fun fine => (if fine = true ∧ st.2.2.length < 40 then some ((⟨#[111, 107]⟩ : ByteArray), (st.1, st.2.1, st.2.2 ++ [(⟨rd ns 0, rd ns 1, rd ns 2, rd ns 3, rd ns 4, rd ns 5⟩ : S46)])) else some (((⟨#[110, 111]⟩ : ByteArray), st) : ByteArray × Sx)) else none
def spec_s_meet.f (k : Nat) (L : List S33) (a b : ByteArray) : Option ByteArray := (spec_l6At.f k L a).bind fun i => (spec_l6At.f k L b).bind fun j => if i < 0 ∨ j < 0 then some (⟨#[110, 111, 110, 101]⟩ : ByteArray) else (if i < (L.length : Int) ∧ j < (L.length : Int) then (spec_ProbeMeet.f k (rd_T33 L i).f0 (rd_T33 L i).f1 (rd_T33 L j).f0 (rd_T33 L j).f1).bind fun m => (if m.2.2.2.2.2 = true then spec_l7Clash.f k m.1 m.2.1 m.2.2.1 m.2.2.2.1 m.2.2.2.2.1 else some (⟨#[110, 101, 118, 101, 114]⟩ : ByteArray)) else none)
end Go.Proofs.YtjelgpmhbaiipaaGreatDoor.PA
end
section
namespace Go.Proofs.YtjelgpmhbaiipaaGreatDoor.PA
open Go.RowKit Go.Proofs.YtjelgpmhbaiipaaGreatDoorW.PrintWords Go.Proofs.YtjelgpmhbaiipaaGreatDoorW.PrintLast Go.Proofs.YtjelgpmhbaiipaaGreatDoorW.PrintMore Go.Proofs.YtjelgpmhbaiipaaGreatDoor.Z
attribute [local go_sem] max2_int min2_int max_two min_two max_three min_three max_four min_four
set_option linter.unusedVariables false
set_option maxHeartbeats 8000000
set_option maxRecDepth 100000
set_option linter.unusedSimpArgs false
theorem Sn.sl_tubeBad (k p : Nat) (L : List S33) (nm : ByteArray) (B : List S46) (Aw : Option Addr) (cw : Nat) (ws : List ByteArray) (a6 a1 : List Int) (o6 o1 : Bool) (w0 w : World) (hB : Below w0.heap.size w0 w) (hWG : Lb.WG w0) (hS : St 35 w w0.heap.size p L nm B) (hrw : Kd.C Kd.string w Aw ws.length ws) (hcw : ws.length ≤ cw) (h0 : 0 < ws.length) (h6 : spec_l7Numbers.f k (ws.drop 1) 6 = some (a6, o6)) (h1 : spec_l7Numbers.f k (ws.drop 1) 1 = some (a1, o1)) (hW : (rdOf ByteArray.empty ws 0).toList = [116, 117, 98, 101]) (hlen : ws.length ≠ 2) :
  Calls Tryz.prog 9 #[.pointer (some ⟨p, 0, none⟩), .slice Aw ws.length cw] w fun e w' => e = .returned (.string (⟨#[98, 97, 100]⟩ : ByteArray)) ∧ St 35 w' w0.heap.size p L nm B ∧ Below w0.heap.size w0 w' := by
 obtain ⟨vT, vB, hBK, hT, hH, hp⟩ := hS
 obtain ⟨A, c, rfl, hlc, hC⟩ := Kd.S_reads hT
 obtain ⟨Ab, cb, rfl, hlb, hCb⟩ := Kd.R_reads hH
 have BKp := ra hBK; have HT := ra hT; have HH := ra hH; have HC := ra hC; have HCB := ra hCb; have HLC := ra hlc; have HLB := ra hlb; have HB := ra hB; have HWG := ra hWG; have GEp := ra hp; have HW := ra hrw; have HLW := ra hcw; have Z0 := ra h6; have Z1 := ra h1; have H0 := ra h0
 obtain ⟨Z2, Z3, _, hsz_, _⟩ := info_parts info9
 have hcut := cut_from (P := Tryz.prog) 27 9 .i64 Tryz.underlying27 Z3 1 hsz_ Aw ws.length cw 1 (by omega) (by omega)
 have htl := Kd.C_drop (m := (1 : Int).toNat) (c := cw) hrw (by have e_ : (1 : Int).toNat = 1 := rfl; omega) hcw
 obtain ⟨Z4, Z5⟩ : ∃ Z4, Z4 = (if cw = (1 : Int).toNat then Aw else (Aw : Option Addr).map (·.add ((1 : Int).toNat * 1))) := ⟨_, rfl⟩
 obtain ⟨Z6, Z7⟩ : ∃ Z6, Z6 = cw - (1 : Int).toNat := ⟨_, rfl⟩
 obtain ⟨tl, htl_⟩ : ∃ tl, tl = ws.drop 1 := ⟨_, rfl⟩
 have hy : tl.length = ws.length - (1 : Int).toNat := by rw [htl_, List.length_drop]; rfl
 replace htl : Kd.C Kd.string w Z4 tl.length tl := by rw [Z5, htl_]; exact htl
 rw [← hy, ← Z5, ← Z7] at hcut
 rw [← htl_] at Z0 Z1
 have HTL := ra htl
 have HTC := ra (show tl.length ≤ Z6 from by rw [hy, Z7]; exact Nat.sub_le_sub_right hcw _)
 clear hBK hT hH hC hCb hlc hlb hB hWG hp h6 h1 htl hy Z5 Z7 htl_
 obtain ⟨fw_tube, fw_box, fw_put, fw_drop, fw_all, fw_with, fw_meet, fw_cut, fw_free⟩ := fs_tube hW
 have fn : ((ws.length : Int) == 2) = false := beq_eq_false_iff_ne.mpr (by omega)
 have Z8 := ki 0 (ws.length : Int)
 have Z9 : (0 < ws.length) = True := eq_true h0
 obtain ⟨adw, ew, Z10⟩ := Kd.at_string hrw 0 (Int.le_refl _) (by omega); cases ew; replace Z10 := Sn.s0 Z10
 clear hrw hcw hW hlen
 have Z11 := Tryz.underlying35; have Z12 := Tryz.underlying55; have Z13 := Tryz.underlying33
 go_enter Tryz.func9, Tryz.ntmps9
 go_wp2_with (first | ((with_reducible refine gc 18 rfl ?_); refine gm (some 12) Tryz.func18 (spec_l7Numbers.calls _ _ _ _ _ _ _ _ HTL.out HTC.out Z0.out) ?_; rintro e Z14 ⟨Z15, rfl, Z16, hb⟩; obtain ⟨An, cn, rfl, hln, hCn⟩ := Kd.R_reads Z16; refine ⟨_, rfl, ?_⟩; have HNI := ra hCn; have HLN := ra hln; replace HTL := ra (Kd.C_below HTL.out hb); replace BKp := bb (bk BKp) hb; replace HB := bs hb; replace HT := Sn.bT HT hb; replace HH := Sn.bH HH hb; replace HC := Sn.bC HC hb; replace HCB := Sn.bC HCB hb; replace Z10 := Sn.cb hb Z10; clear hb Z16 hCn hln) | ((with_reducible refine gc 18 rfl ?_); refine gm (some 18) Tryz.func18 (spec_l7Numbers.calls _ _ _ _ _ _ _ _ HTL.out HTC.out Z1.out) ?_; rintro e Z17 ⟨Z15, rfl, Z16, hb⟩; obtain ⟨Am, cm, rfl, hlm, hCm⟩ := Kd.R_reads Z16; refine ⟨_, rfl, ?_⟩; have HMI := ra hCm; have HLM := ra hlm; replace HNI := ra (Kd.C_below HNI.out hb); replace BKp := bb (bk BKp) hb; replace HB := bs hb; replace HT := Sn.bT HT hb; replace HH := Sn.bH HH hb; replace HC := Sn.bC HC hb; replace HCB := Sn.bC HCB hb; replace Z10 := Sn.cb hb Z10; clear hb Z16 hCm hlm HTL; obtain ⟨Z18, Z19, Z20, Z21, Z22, Z23⟩ := Sn.zc3 BKp))
 go_ret
 exact ⟨re, ⟨_, _, bk BKp, Sn.qS HT, Sn.qR HH, GEp.out⟩, bq⟩
theorem Sn.sl_boxBad (k p : Nat) (L : List S33) (nm : ByteArray) (B : List S46) (Aw : Option Addr) (cw : Nat) (ws : List ByteArray) (a6 a1 : List Int) (o1 : Bool) (w0 w : World) (hB : Below w0.heap.size w0 w) (hWG : Lb.WG w0) (hS : St 35 w w0.heap.size p L nm B) (hrw : Kd.C Kd.string w Aw ws.length ws) (hcw : ws.length ≤ cw) (h0 : 0 < ws.length) (h6 : spec_l7Numbers.f k (ws.drop 1) 6 = some (a6, false)) (h1 : spec_l7Numbers.f k (ws.drop 1) 1 = some (a1, o1)) (hW : (rdOf ByteArray.empty ws 0).toList = [98, 111, 120]) :
  Calls Tryz.prog 9 #[.pointer (some ⟨p, 0, none⟩), .slice Aw ws.length cw] w fun e w' => e = .returned (.string (⟨#[98, 97, 100]⟩ : ByteArray)) ∧ St 35 w' w0.heap.size p L nm B ∧ Below w0.heap.size w0 w' := by
 obtain ⟨vT, vB, hBK, hT, hH, hp⟩ := hS
 obtain ⟨A, c, rfl, hlc, hC⟩ := Kd.S_reads hT
 obtain ⟨Ab, cb, rfl, hlb, hCb⟩ := Kd.R_reads hH
 have BKp := ra hBK; have HT := ra hT; have HH := ra hH; have HC := ra hC; have HCB := ra hCb; have HLC := ra hlc; have HLB := ra hlb; have HB := ra hB; have HWG := ra hWG; have GEp := ra hp; have HW := ra hrw; have HLW := ra hcw; have Z0 := ra h6; have Z1 := ra h1; have H0 := ra h0
 obtain ⟨Z2, Z3, _, hsz_, _⟩ := info_parts info9
 have hcut := cut_from (P := Tryz.prog) 27 9 .i64 Tryz.underlying27 Z3 1 hsz_ Aw ws.length cw 1 (by omega) (by omega)
 have htl := Kd.C_drop (m := (1 : Int).toNat) (c := cw) hrw (by have e_ : (1 : Int).toNat = 1 := rfl; omega) hcw
 obtain ⟨Z4, Z5⟩ : ∃ Z4, Z4 = (if cw = (1 : Int).toNat then Aw else (Aw : Option Addr).map (·.add ((1 : Int).toNat * 1))) := ⟨_, rfl⟩
 obtain ⟨Z6, Z7⟩ : ∃ Z6, Z6 = cw - (1 : Int).toNat := ⟨_, rfl⟩
 obtain ⟨tl, htl_⟩ : ∃ tl, tl = ws.drop 1 := ⟨_, rfl⟩
 have hy : tl.length = ws.length - (1 : Int).toNat := by rw [htl_, List.length_drop]; rfl
 replace htl : Kd.C Kd.string w Z4 tl.length tl := by rw [Z5, htl_]; exact htl
 rw [← hy, ← Z5, ← Z7] at hcut
 rw [← htl_] at Z0 Z1
 have HTL := ra htl
 have HTC := ra (show tl.length ≤ Z6 from by rw [hy, Z7]; exact Nat.sub_le_sub_right hcw _)
 clear hBK hT hH hC hCb hlc hlb hB hWG hp h6 h1 htl hy Z5 Z7 htl_
 obtain ⟨fw_tube, fw_box, fw_put, fw_drop, fw_all, fw_with, fw_meet, fw_cut, fw_free⟩ := fs_box hW
 have Z8 := ki 0 (ws.length : Int)
 have Z9 : (0 < ws.length) = True := eq_true h0
 obtain ⟨adw, ew, Z10⟩ := Kd.at_string hrw 0 (Int.le_refl _) (by omega); cases ew; replace Z10 := Sn.s0 Z10
 clear hrw hcw hW
 have Z11 := Tryz.underlying35; have Z12 := Tryz.underlying55; have Z13 := Tryz.underlying33
 go_enter Tryz.func9, Tryz.ntmps9
 go_wp2_with (first | ((with_reducible refine gc 18 rfl ?_); refine gm (some 12) Tryz.func18 (spec_l7Numbers.calls _ _ _ _ _ _ _ _ HTL.out HTC.out Z0.out) ?_; rintro e Z14 ⟨Z15, rfl, Z16, hb⟩; obtain ⟨An, cn, rfl, hln, hCn⟩ := Kd.R_reads Z16; refine ⟨_, rfl, ?_⟩; have HNI := ra hCn; have HLN := ra hln; replace HTL := ra (Kd.C_below HTL.out hb); replace BKp := bb (bk BKp) hb; replace HB := bs hb; replace HT := Sn.bT HT hb; replace HH := Sn.bH HH hb; replace HC := Sn.bC HC hb; replace HCB := Sn.bC HCB hb; replace Z10 := Sn.cb hb Z10; clear hb Z16 hCn hln) | ((with_reducible refine gc 18 rfl ?_); refine gm (some 18) Tryz.func18 (spec_l7Numbers.calls _ _ _ _ _ _ _ _ HTL.out HTC.out Z1.out) ?_; rintro e Z17 ⟨Z15, rfl, Z16, hb⟩; obtain ⟨Am, cm, rfl, hlm, hCm⟩ := Kd.R_reads Z16; refine ⟨_, rfl, ?_⟩; have HMI := ra hCm; have HLM := ra hlm; replace HNI := ra (Kd.C_below HNI.out hb); replace BKp := bb (bk BKp) hb; replace HB := bs hb; replace HT := Sn.bT HT hb; replace HH := Sn.bH HH hb; replace HC := Sn.bC HC hb; replace HCB := Sn.bC HCB hb; replace Z10 := Sn.cb hb Z10; clear hb Z16 hCm hlm HTL; obtain ⟨Z18, Z19, Z20, Z21, Z22, Z23⟩ := Sn.zc3 BKp))
 go_ret
 exact ⟨re, ⟨_, _, bk BKp, Sn.qS HT, Sn.qR HH, GEp.out⟩, bq⟩
theorem Sn.sl_putBad (k p : Nat) (L : List S33) (nm : ByteArray) (B : List S46) (Aw : Option Addr) (cw : Nat) (ws : List ByteArray) (a6 a1 : List Int) (o6 o1 : Bool) (w0 w : World) (hB : Below w0.heap.size w0 w) (hWG : Lb.WG w0) (hS : St 35 w w0.heap.size p L nm B) (hrw : Kd.C Kd.string w Aw ws.length ws) (hcw : ws.length ≤ cw) (h0 : 0 < ws.length) (h6 : spec_l7Numbers.f k (ws.drop 1) 6 = some (a6, o6)) (h1 : spec_l7Numbers.f k (ws.drop 1) 1 = some (a1, o1)) (hW : (rdOf ByteArray.empty ws 0).toList = [112, 117, 116]) (hlen : ws.length ≠ 1) :
  Calls Tryz.prog 9 #[.pointer (some ⟨p, 0, none⟩), .slice Aw ws.length cw] w fun e w' => e = .returned (.string (⟨#[98, 97, 100]⟩ : ByteArray)) ∧ St 35 w' w0.heap.size p L nm B ∧ Below w0.heap.size w0 w' := by
 obtain ⟨vT, vB, hBK, hT, hH, hp⟩ := hS
 obtain ⟨A, c, rfl, hlc, hC⟩ := Kd.S_reads hT
 obtain ⟨Ab, cb, rfl, hlb, hCb⟩ := Kd.R_reads hH
 have BKp := ra hBK; have HT := ra hT; have HH := ra hH; have HC := ra hC; have HCB := ra hCb; have HLC := ra hlc; have HLB := ra hlb; have HB := ra hB; have HWG := ra hWG; have GEp := ra hp; have HW := ra hrw; have HLW := ra hcw; have Z0 := ra h6; have Z1 := ra h1; have H0 := ra h0
 obtain ⟨Z2, Z3, _, hsz_, _⟩ := info_parts info9
 have hcut := cut_from (P := Tryz.prog) 27 9 .i64 Tryz.underlying27 Z3 1 hsz_ Aw ws.length cw 1 (by omega) (by omega)
 have htl := Kd.C_drop (m := (1 : Int).toNat) (c := cw) hrw (by have e_ : (1 : Int).toNat = 1 := rfl; omega) hcw
 obtain ⟨Z4, Z5⟩ : ∃ Z4, Z4 = (if cw = (1 : Int).toNat then Aw else (Aw : Option Addr).map (·.add ((1 : Int).toNat * 1))) := ⟨_, rfl⟩
 obtain ⟨Z6, Z7⟩ : ∃ Z6, Z6 = cw - (1 : Int).toNat := ⟨_, rfl⟩
 obtain ⟨tl, htl_⟩ : ∃ tl, tl = ws.drop 1 := ⟨_, rfl⟩
 have hy : tl.length = ws.length - (1 : Int).toNat := by rw [htl_, List.length_drop]; rfl
 replace htl : Kd.C Kd.string w Z4 tl.length tl := by rw [Z5, htl_]; exact htl
 rw [← hy, ← Z5, ← Z7] at hcut
 rw [← htl_] at Z0 Z1
 have HTL := ra htl
 have HTC := ra (show tl.length ≤ Z6 from by rw [hy, Z7]; exact Nat.sub_le_sub_right hcw _)
 clear hBK hT hH hC hCb hlc hlb hB hWG hp h6 h1 htl hy Z5 Z7 htl_
 obtain ⟨fw_tube, fw_box, fw_put, fw_drop, fw_all, fw_with, fw_meet, fw_cut, fw_free⟩ := fs_put hW
 have fn : ((ws.length : Int) == 1) = false := beq_eq_false_iff_ne.mpr (by omega)
 have Z8 := ki 0 (ws.length : Int)
 have Z9 : (0 < ws.length) = True := eq_true h0
 obtain ⟨adw, ew, Z10⟩ := Kd.at_string hrw 0 (Int.le_refl _) (by omega); cases ew; replace Z10 := Sn.s0 Z10
 clear hrw hcw hW hlen
 have Z11 := Tryz.underlying35; have Z12 := Tryz.underlying55; have Z13 := Tryz.underlying33
 go_enter Tryz.func9, Tryz.ntmps9
 go_wp2_with (first | ((with_reducible refine gc 18 rfl ?_); refine gm (some 12) Tryz.func18 (spec_l7Numbers.calls _ _ _ _ _ _ _ _ HTL.out HTC.out Z0.out) ?_; rintro e Z14 ⟨Z15, rfl, Z16, hb⟩; obtain ⟨An, cn, rfl, hln, hCn⟩ := Kd.R_reads Z16; refine ⟨_, rfl, ?_⟩; have HNI := ra hCn; have HLN := ra hln; replace HTL := ra (Kd.C_below HTL.out hb); replace BKp := bb (bk BKp) hb; replace HB := bs hb; replace HT := Sn.bT HT hb; replace HH := Sn.bH HH hb; replace HC := Sn.bC HC hb; replace HCB := Sn.bC HCB hb; replace Z10 := Sn.cb hb Z10; clear hb Z16 hCn hln) | ((with_reducible refine gc 18 rfl ?_); refine gm (some 18) Tryz.func18 (spec_l7Numbers.calls _ _ _ _ _ _ _ _ HTL.out HTC.out Z1.out) ?_; rintro e Z17 ⟨Z15, rfl, Z16, hb⟩; obtain ⟨Am, cm, rfl, hlm, hCm⟩ := Kd.R_reads Z16; refine ⟨_, rfl, ?_⟩; have HMI := ra hCm; have HLM := ra hlm; replace HNI := ra (Kd.C_below HNI.out hb); replace BKp := bb (bk BKp) hb; replace HB := bs hb; replace HT := Sn.bT HT hb; replace HH := Sn.bH HH hb; replace HC := Sn.bC HC hb; replace HCB := Sn.bC HCB hb; replace Z10 := Sn.cb hb Z10; clear hb Z16 hCm hlm HTL; obtain ⟨Z18, Z19, Z20, Z21, Z22, Z23⟩ := Sn.zc3 BKp))
 go_ret
 exact ⟨re, ⟨_, _, bk BKp, Sn.qS HT, Sn.qR HH, GEp.out⟩, bq⟩
theorem Sn.sl_dropBad (k p : Nat) (L : List S33) (nm : ByteArray) (B : List S46) (Aw : Option Addr) (cw : Nat) (ws : List ByteArray) (a6 a1 : List Int) (o6 o1 : Bool) (w0 w : World) (hB : Below w0.heap.size w0 w) (hWG : Lb.WG w0) (hS : St 35 w w0.heap.size p L nm B) (hrw : Kd.C Kd.string w Aw ws.length ws) (hcw : ws.length ≤ cw) (h0 : 0 < ws.length) (h6 : spec_l7Numbers.f k (ws.drop 1) 6 = some (a6, o6)) (h1 : spec_l7Numbers.f k (ws.drop 1) 1 = some (a1, o1)) (hW : (rdOf ByteArray.empty ws 0).toList = [100, 114, 111, 112]) (hlen : ws.length ≠ 2) :
  Calls Tryz.prog 9 #[.pointer (some ⟨p, 0, none⟩), .slice Aw ws.length cw] w fun e w' => e = .returned (.string (⟨#[98, 97, 100]⟩ : ByteArray)) ∧ St 35 w' w0.heap.size p L nm B ∧ Below w0.heap.size w0 w' := by
 obtain ⟨vT, vB, hBK, hT, hH, hp⟩ := hS
 obtain ⟨A, c, rfl, hlc, hC⟩ := Kd.S_reads hT
 obtain ⟨Ab, cb, rfl, hlb, hCb⟩ := Kd.R_reads hH
 have BKp := ra hBK; have HT := ra hT; have HH := ra hH; have HC := ra hC; have HCB := ra hCb; have HLC := ra hlc; have HLB := ra hlb; have HB := ra hB; have HWG := ra hWG; have GEp := ra hp; have HW := ra hrw; have HLW := ra hcw; have Z0 := ra h6; have Z1 := ra h1; have H0 := ra h0
 obtain ⟨Z2, Z3, _, hsz_, _⟩ := info_parts info9
 have hcut := cut_from (P := Tryz.prog) 27 9 .i64 Tryz.underlying27 Z3 1 hsz_ Aw ws.length cw 1 (by omega) (by omega)
 have htl := Kd.C_drop (m := (1 : Int).toNat) (c := cw) hrw (by have e_ : (1 : Int).toNat = 1 := rfl; omega) hcw
 obtain ⟨Z4, Z5⟩ : ∃ Z4, Z4 = (if cw = (1 : Int).toNat then Aw else (Aw : Option Addr).map (·.add ((1 : Int).toNat * 1))) := ⟨_, rfl⟩
 obtain ⟨Z6, Z7⟩ : ∃ Z6, Z6 = cw - (1 : Int).toNat := ⟨_, rfl⟩
 obtain ⟨tl, htl_⟩ : ∃ tl, tl = ws.drop 1 := ⟨_, rfl⟩
 have hy : tl.length = ws.length - (1 : Int).toNat := by rw [htl_, List.length_drop]; rfl
 replace htl : Kd.C Kd.string w Z4 tl.length tl := by rw [Z5, htl_]; exact htl
 rw [← hy, ← Z5, ← Z7] at hcut
 rw [← htl_] at Z0 Z1
 have HTL := ra htl
 have HTC := ra (show tl.length ≤ Z6 from by rw [hy, Z7]; exact Nat.sub_le_sub_right hcw _)
 clear hBK hT hH hC hCb hlc hlb hB hWG hp h6 h1 htl hy Z5 Z7 htl_
 obtain ⟨fw_tube, fw_box, fw_put, fw_drop, fw_all, fw_with, fw_meet, fw_cut, fw_free⟩ := fs_drop hW
 have fn : ((ws.length : Int) == 2) = false := beq_eq_false_iff_ne.mpr (by omega)
 have Z8 := ki 0 (ws.length : Int)
 have Z9 : (0 < ws.length) = True := eq_true h0
 obtain ⟨adw, ew, Z10⟩ := Kd.at_string hrw 0 (Int.le_refl _) (by omega); cases ew; replace Z10 := Sn.s0 Z10
 clear hrw hcw hW hlen
 have Z11 := Tryz.underlying35; have Z12 := Tryz.underlying55; have Z13 := Tryz.underlying33
 go_enter Tryz.func9, Tryz.ntmps9
 go_wp2_with (first | ((with_reducible refine gc 18 rfl ?_); refine gm (some 12) Tryz.func18 (spec_l7Numbers.calls _ _ _ _ _ _ _ _ HTL.out HTC.out Z0.out) ?_; rintro e Z14 ⟨Z15, rfl, Z16, hb⟩; obtain ⟨An, cn, rfl, hln, hCn⟩ := Kd.R_reads Z16; refine ⟨_, rfl, ?_⟩; have HNI := ra hCn; have HLN := ra hln; replace HTL := ra (Kd.C_below HTL.out hb); replace BKp := bb (bk BKp) hb; replace HB := bs hb; replace HT := Sn.bT HT hb; replace HH := Sn.bH HH hb; replace HC := Sn.bC HC hb; replace HCB := Sn.bC HCB hb; replace Z10 := Sn.cb hb Z10; clear hb Z16 hCn hln) | ((with_reducible refine gc 18 rfl ?_); refine gm (some 18) Tryz.func18 (spec_l7Numbers.calls _ _ _ _ _ _ _ _ HTL.out HTC.out Z1.out) ?_; rintro e Z17 ⟨Z15, rfl, Z16, hb⟩; obtain ⟨Am, cm, rfl, hlm, hCm⟩ := Kd.R_reads Z16; refine ⟨_, rfl, ?_⟩; have HMI := ra hCm; have HLM := ra hlm; replace HNI := ra (Kd.C_below HNI.out hb); replace BKp := bb (bk BKp) hb; replace HB := bs hb; replace HT := Sn.bT HT hb; replace HH := Sn.bH HH hb; replace HC := Sn.bC HC hb; replace HCB := Sn.bC HCB hb; replace Z10 := Sn.cb hb Z10; clear hb Z16 hCm hlm HTL; obtain ⟨Z18, Z19, Z20, Z21, Z22, Z23⟩ := Sn.zc3 BKp))
 go_ret
 exact ⟨re, ⟨_, _, bk BKp, Sn.qS HT, Sn.qR HH, GEp.out⟩, bq⟩
theorem Sn.sl_allBad (k p : Nat) (L : List S33) (nm : ByteArray) (B : List S46) (Aw : Option Addr) (cw : Nat) (ws : List ByteArray) (a6 a1 : List Int) (o6 o1 : Bool) (w0 w : World) (hB : Below w0.heap.size w0 w) (hWG : Lb.WG w0) (hS : St 35 w w0.heap.size p L nm B) (hrw : Kd.C Kd.string w Aw ws.length ws) (hcw : ws.length ≤ cw) (h0 : 0 < ws.length) (h6 : spec_l7Numbers.f k (ws.drop 1) 6 = some (a6, o6)) (h1 : spec_l7Numbers.f k (ws.drop 1) 1 = some (a1, o1)) (hW : (rdOf ByteArray.empty ws 0).toList = [97, 108, 108]) (hlen : ws.length ≠ 1) :
  Calls Tryz.prog 9 #[.pointer (some ⟨p, 0, none⟩), .slice Aw ws.length cw] w fun e w' => e = .returned (.string (⟨#[98, 97, 100]⟩ : ByteArray)) ∧ St 35 w' w0.heap.size p L nm B ∧ Below w0.heap.size w0 w' := by
 obtain ⟨vT, vB, hBK, hT, hH, hp⟩ := hS
 obtain ⟨A, c, rfl, hlc, hC⟩ := Kd.S_reads hT
 obtain ⟨Ab, cb, rfl, hlb, hCb⟩ := Kd.R_reads hH
 have BKp := ra hBK; have HT := ra hT; have HH := ra hH; have HC := ra hC; have HCB := ra hCb; have HLC := ra hlc; have HLB := ra hlb; have HB := ra hB; have HWG := ra hWG; have GEp := ra hp; have HW := ra hrw; have HLW := ra hcw; have Z0 := ra h6; have Z1 := ra h1; have H0 := ra h0
 obtain ⟨Z2, Z3, _, hsz_, _⟩ := info_parts info9
 have hcut := cut_from (P := Tryz.prog) 27 9 .i64 Tryz.underlying27 Z3 1 hsz_ Aw ws.length cw 1 (by omega) (by omega)
 have htl := Kd.C_drop (m := (1 : Int).toNat) (c := cw) hrw (by have e_ : (1 : Int).toNat = 1 := rfl; omega) hcw
 obtain ⟨Z4, Z5⟩ : ∃ Z4, Z4 = (if cw = (1 : Int).toNat then Aw else (Aw : Option Addr).map (·.add ((1 : Int).toNat * 1))) := ⟨_, rfl⟩
 obtain ⟨Z6, Z7⟩ : ∃ Z6, Z6 = cw - (1 : Int).toNat := ⟨_, rfl⟩
 obtain ⟨tl, htl_⟩ : ∃ tl, tl = ws.drop 1 := ⟨_, rfl⟩
 have hy : tl.length = ws.length - (1 : Int).toNat := by rw [htl_, List.length_drop]; rfl
 replace htl : Kd.C Kd.string w Z4 tl.length tl := by rw [Z5, htl_]; exact htl
 rw [← hy, ← Z5, ← Z7] at hcut
 rw [← htl_] at Z0 Z1
 have HTL := ra htl
 have HTC := ra (show tl.length ≤ Z6 from by rw [hy, Z7]; exact Nat.sub_le_sub_right hcw _)
 clear hBK hT hH hC hCb hlc hlb hB hWG hp h6 h1 htl hy Z5 Z7 htl_
 obtain ⟨fw_tube, fw_box, fw_put, fw_drop, fw_all, fw_with, fw_meet, fw_cut, fw_free⟩ := fs_all hW
 have fn : ((ws.length : Int) == 1) = false := beq_eq_false_iff_ne.mpr (by omega)
 have Z8 := ki 0 (ws.length : Int)
 have Z9 : (0 < ws.length) = True := eq_true h0
 obtain ⟨adw, ew, Z10⟩ := Kd.at_string hrw 0 (Int.le_refl _) (by omega); cases ew; replace Z10 := Sn.s0 Z10
 clear hrw hcw hW hlen
 have Z11 := Tryz.underlying35; have Z12 := Tryz.underlying55; have Z13 := Tryz.underlying33
 go_enter Tryz.func9, Tryz.ntmps9
 go_wp2_with (first | ((with_reducible refine gc 18 rfl ?_); refine gm (some 12) Tryz.func18 (spec_l7Numbers.calls _ _ _ _ _ _ _ _ HTL.out HTC.out Z0.out) ?_; rintro e Z14 ⟨Z15, rfl, Z16, hb⟩; obtain ⟨An, cn, rfl, hln, hCn⟩ := Kd.R_reads Z16; refine ⟨_, rfl, ?_⟩; have HNI := ra hCn; have HLN := ra hln; replace HTL := ra (Kd.C_below HTL.out hb); replace BKp := bb (bk BKp) hb; replace HB := bs hb; replace HT := Sn.bT HT hb; replace HH := Sn.bH HH hb; replace HC := Sn.bC HC hb; replace HCB := Sn.bC HCB hb; replace Z10 := Sn.cb hb Z10; clear hb Z16 hCn hln) | ((with_reducible refine gc 18 rfl ?_); refine gm (some 18) Tryz.func18 (spec_l7Numbers.calls _ _ _ _ _ _ _ _ HTL.out HTC.out Z1.out) ?_; rintro e Z17 ⟨Z15, rfl, Z16, hb⟩; obtain ⟨Am, cm, rfl, hlm, hCm⟩ := Kd.R_reads Z16; refine ⟨_, rfl, ?_⟩; have HMI := ra hCm; have HLM := ra hlm; replace HNI := ra (Kd.C_below HNI.out hb); replace BKp := bb (bk BKp) hb; replace HB := bs hb; replace HT := Sn.bT HT hb; replace HH := Sn.bH HH hb; replace HC := Sn.bC HC hb; replace HCB := Sn.bC HCB hb; replace Z10 := Sn.cb hb Z10; clear hb Z16 hCm hlm HTL; obtain ⟨Z18, Z19, Z20, Z21, Z22, Z23⟩ := Sn.zc3 BKp))
 go_ret
 exact ⟨re, ⟨_, _, bk BKp, Sn.qS HT, Sn.qR HH, GEp.out⟩, bq⟩
theorem Sn.sl_withBad (k p : Nat) (L : List S33) (nm : ByteArray) (B : List S46) (Aw : Option Addr) (cw : Nat) (ws : List ByteArray) (a6 a1 : List Int) (o6 o1 : Bool) (w0 w : World) (hB : Below w0.heap.size w0 w) (hWG : Lb.WG w0) (hS : St 35 w w0.heap.size p L nm B) (hrw : Kd.C Kd.string w Aw ws.length ws) (hcw : ws.length ≤ cw) (h0 : 0 < ws.length) (h6 : spec_l7Numbers.f k (ws.drop 1) 6 = some (a6, o6)) (h1 : spec_l7Numbers.f k (ws.drop 1) 1 = some (a1, o1)) (hW : (rdOf ByteArray.empty ws 0).toList = [119, 105, 116, 104]) (hlen : ws.length ≠ 1) :
  Calls Tryz.prog 9 #[.pointer (some ⟨p, 0, none⟩), .slice Aw ws.length cw] w fun e w' => e = .returned (.string (⟨#[98, 97, 100]⟩ : ByteArray)) ∧ St 35 w' w0.heap.size p L nm B ∧ Below w0.heap.size w0 w' := by
 obtain ⟨vT, vB, hBK, hT, hH, hp⟩ := hS
 obtain ⟨A, c, rfl, hlc, hC⟩ := Kd.S_reads hT
 obtain ⟨Ab, cb, rfl, hlb, hCb⟩ := Kd.R_reads hH
 have BKp := ra hBK; have HT := ra hT; have HH := ra hH; have HC := ra hC; have HCB := ra hCb; have HLC := ra hlc; have HLB := ra hlb; have HB := ra hB; have HWG := ra hWG; have GEp := ra hp; have HW := ra hrw; have HLW := ra hcw; have Z0 := ra h6; have Z1 := ra h1; have H0 := ra h0
 obtain ⟨Z2, Z3, _, hsz_, _⟩ := info_parts info9
 have hcut := cut_from (P := Tryz.prog) 27 9 .i64 Tryz.underlying27 Z3 1 hsz_ Aw ws.length cw 1 (by omega) (by omega)
 have htl := Kd.C_drop (m := (1 : Int).toNat) (c := cw) hrw (by have e_ : (1 : Int).toNat = 1 := rfl; omega) hcw
 obtain ⟨Z4, Z5⟩ : ∃ Z4, Z4 = (if cw = (1 : Int).toNat then Aw else (Aw : Option Addr).map (·.add ((1 : Int).toNat * 1))) := ⟨_, rfl⟩
 obtain ⟨Z6, Z7⟩ : ∃ Z6, Z6 = cw - (1 : Int).toNat := ⟨_, rfl⟩
 obtain ⟨tl, htl_⟩ : ∃ tl, tl = ws.drop 1 := ⟨_, rfl⟩
 have hy : tl.length = ws.length - (1 : Int).toNat := by rw [htl_, List.length_drop]; rfl
 replace htl : Kd.C Kd.string w Z4 tl.length tl := by rw [Z5, htl_]; exact htl
 rw [← hy, ← Z5, ← Z7] at hcut
 rw [← htl_] at Z0 Z1
 have HTL := ra htl
 have HTC := ra (show tl.length ≤ Z6 from by rw [hy, Z7]; exact Nat.sub_le_sub_right hcw _)
 clear hBK hT hH hC hCb hlc hlb hB hWG hp h6 h1 htl hy Z5 Z7 htl_
 obtain ⟨fw_tube, fw_box, fw_put, fw_drop, fw_all, fw_with, fw_meet, fw_cut, fw_free⟩ := fs_with hW
 have fn : ((ws.length : Int) == 1) = false := beq_eq_false_iff_ne.mpr (by omega)
 have Z8 := ki 0 (ws.length : Int)
 have Z9 : (0 < ws.length) = True := eq_true h0
 obtain ⟨adw, ew, Z10⟩ := Kd.at_string hrw 0 (Int.le_refl _) (by omega); cases ew; replace Z10 := Sn.s0 Z10
 clear hrw hcw hW hlen
 have Z11 := Tryz.underlying35; have Z12 := Tryz.underlying55; have Z13 := Tryz.underlying33
 go_enter Tryz.func9, Tryz.ntmps9
 go_wp2_with (first | ((with_reducible refine gc 18 rfl ?_); refine gm (some 12) Tryz.func18 (spec_l7Numbers.calls _ _ _ _ _ _ _ _ HTL.out HTC.out Z0.out) ?_; rintro e Z14 ⟨Z15, rfl, Z16, hb⟩; obtain ⟨An, cn, rfl, hln, hCn⟩ := Kd.R_reads Z16; refine ⟨_, rfl, ?_⟩; have HNI := ra hCn; have HLN := ra hln; replace HTL := ra (Kd.C_below HTL.out hb); replace BKp := bb (bk BKp) hb; replace HB := bs hb; replace HT := Sn.bT HT hb; replace HH := Sn.bH HH hb; replace HC := Sn.bC HC hb; replace HCB := Sn.bC HCB hb; replace Z10 := Sn.cb hb Z10; clear hb Z16 hCn hln) | ((with_reducible refine gc 18 rfl ?_); refine gm (some 18) Tryz.func18 (spec_l7Numbers.calls _ _ _ _ _ _ _ _ HTL.out HTC.out Z1.out) ?_; rintro e Z17 ⟨Z15, rfl, Z16, hb⟩; obtain ⟨Am, cm, rfl, hlm, hCm⟩ := Kd.R_reads Z16; refine ⟨_, rfl, ?_⟩; have HMI := ra hCm; have HLM := ra hlm; replace HNI := ra (Kd.C_below HNI.out hb); replace BKp := bb (bk BKp) hb; replace HB := bs hb; replace HT := Sn.bT HT hb; replace HH := Sn.bH HH hb; replace HC := Sn.bC HC hb; replace HCB := Sn.bC HCB hb; replace Z10 := Sn.cb hb Z10; clear hb Z16 hCm hlm HTL; obtain ⟨Z18, Z19, Z20, Z21, Z22, Z23⟩ := Sn.zc3 BKp))
 go_ret
 exact ⟨re, ⟨_, _, bk BKp, Sn.qS HT, Sn.qR HH, GEp.out⟩, bq⟩
theorem Sn.sl_meetBad (k p : Nat) (L : List S33) (nm : ByteArray) (B : List S46) (Aw : Option Addr) (cw : Nat) (ws : List ByteArray) (a6 a1 : List Int) (o6 o1 : Bool) (w0 w : World) (hB : Below w0.heap.size w0 w) (hWG : Lb.WG w0) (hS : St 35 w w0.heap.size p L nm B) (hrw : Kd.C Kd.string w Aw ws.length ws) (hcw : ws.length ≤ cw) (h0 : 0 < ws.length) (h6 : spec_l7Numbers.f k (ws.drop 1) 6 = some (a6, o6)) (h1 : spec_l7Numbers.f k (ws.drop 1) 1 = some (a1, o1)) (hW : (rdOf ByteArray.empty ws 0).toList = [109, 101, 101, 116]) (hlen : ws.length ≠ 3) :
  Calls Tryz.prog 9 #[.pointer (some ⟨p, 0, none⟩), .slice Aw ws.length cw] w fun e w' => e = .returned (.string (⟨#[98, 97, 100]⟩ : ByteArray)) ∧ St 35 w' w0.heap.size p L nm B ∧ Below w0.heap.size w0 w' := by
 obtain ⟨vT, vB, hBK, hT, hH, hp⟩ := hS
 obtain ⟨A, c, rfl, hlc, hC⟩ := Kd.S_reads hT
 obtain ⟨Ab, cb, rfl, hlb, hCb⟩ := Kd.R_reads hH
 have BKp := ra hBK; have HT := ra hT; have HH := ra hH; have HC := ra hC; have HCB := ra hCb; have HLC := ra hlc; have HLB := ra hlb; have HB := ra hB; have HWG := ra hWG; have GEp := ra hp; have HW := ra hrw; have HLW := ra hcw; have Z0 := ra h6; have Z1 := ra h1; have H0 := ra h0
 obtain ⟨Z2, Z3, _, hsz_, _⟩ := info_parts info9
 have hcut := cut_from (P := Tryz.prog) 27 9 .i64 Tryz.underlying27 Z3 1 hsz_ Aw ws.length cw 1 (by omega) (by omega)
 have htl := Kd.C_drop (m := (1 : Int).toNat) (c := cw) hrw (by have e_ : (1 : Int).toNat = 1 := rfl; omega) hcw
 obtain ⟨Z4, Z5⟩ : ∃ Z4, Z4 = (if cw = (1 : Int).toNat then Aw else (Aw : Option Addr).map (·.add ((1 : Int).toNat * 1))) := ⟨_, rfl⟩
 obtain ⟨Z6, Z7⟩ : ∃ Z6, Z6 = cw - (1 : Int).toNat := ⟨_, rfl⟩
 obtain ⟨tl, htl_⟩ : ∃ tl, tl = ws.drop 1 := ⟨_, rfl⟩
 have hy : tl.length = ws.length - (1 : Int).toNat := by rw [htl_, List.length_drop]; rfl
 replace htl : Kd.C Kd.string w Z4 tl.length tl := by rw [Z5, htl_]; exact htl
 rw [← hy, ← Z5, ← Z7] at hcut
 rw [← htl_] at Z0 Z1
 have HTL := ra htl
 have HTC := ra (show tl.length ≤ Z6 from by rw [hy, Z7]; exact Nat.sub_le_sub_right hcw _)
 clear hBK hT hH hC hCb hlc hlb hB hWG hp h6 h1 htl hy Z5 Z7 htl_
 obtain ⟨fw_tube, fw_box, fw_put, fw_drop, fw_all, fw_with, fw_meet, fw_cut, fw_free⟩ := fs_meet hW
 have fn : ((ws.length : Int) == 3) = false := beq_eq_false_iff_ne.mpr (by omega)
 have Z8 := ki 0 (ws.length : Int)
 have Z9 : (0 < ws.length) = True := eq_true h0
 obtain ⟨adw, ew, Z10⟩ := Kd.at_string hrw 0 (Int.le_refl _) (by omega); cases ew; replace Z10 := Sn.s0 Z10
 clear hrw hcw hW hlen
 have Z11 := Tryz.underlying35; have Z12 := Tryz.underlying55; have Z13 := Tryz.underlying33
 go_enter Tryz.func9, Tryz.ntmps9
 go_wp2_with (first | ((with_reducible refine gc 18 rfl ?_); refine gm (some 12) Tryz.func18 (spec_l7Numbers.calls _ _ _ _ _ _ _ _ HTL.out HTC.out Z0.out) ?_; rintro e Z14 ⟨Z15, rfl, Z16, hb⟩; obtain ⟨An, cn, rfl, hln, hCn⟩ := Kd.R_reads Z16; refine ⟨_, rfl, ?_⟩; have HNI := ra hCn; have HLN := ra hln; replace HTL := ra (Kd.C_below HTL.out hb); replace BKp := bb (bk BKp) hb; replace HB := bs hb; replace HT := Sn.bT HT hb; replace HH := Sn.bH HH hb; replace HC := Sn.bC HC hb; replace HCB := Sn.bC HCB hb; replace Z10 := Sn.cb hb Z10; clear hb Z16 hCn hln) | ((with_reducible refine gc 18 rfl ?_); refine gm (some 18) Tryz.func18 (spec_l7Numbers.calls _ _ _ _ _ _ _ _ HTL.out HTC.out Z1.out) ?_; rintro e Z17 ⟨Z15, rfl, Z16, hb⟩; obtain ⟨Am, cm, rfl, hlm, hCm⟩ := Kd.R_reads Z16; refine ⟨_, rfl, ?_⟩; have HMI := ra hCm; have HLM := ra hlm; replace HNI := ra (Kd.C_below HNI.out hb); replace BKp := bb (bk BKp) hb; replace HB := bs hb; replace HT := Sn.bT HT hb; replace HH := Sn.bH HH hb; replace HC := Sn.bC HC hb; replace HCB := Sn.bC HCB hb; replace Z10 := Sn.cb hb Z10; clear hb Z16 hCm hlm HTL; obtain ⟨Z18, Z19, Z20, Z21, Z22, Z23⟩ := Sn.zc3 BKp))
 go_ret
 exact ⟨re, ⟨_, _, bk BKp, Sn.qS HT, Sn.qR HH, GEp.out⟩, bq⟩
theorem Sn.sl_cutBad (k p : Nat) (L : List S33) (nm : ByteArray) (B : List S46) (Aw : Option Addr) (cw : Nat) (ws : List ByteArray) (a6 a1 : List Int) (o6 : Bool) (w0 w : World) (hB : Below w0.heap.size w0 w) (hWG : Lb.WG w0) (hS : St 35 w w0.heap.size p L nm B) (hrw : Kd.C Kd.string w Aw ws.length ws) (hcw : ws.length ≤ cw) (h0 : 0 < ws.length) (h6 : spec_l7Numbers.f k (ws.drop 1) 6 = some (a6, o6)) (h1 : spec_l7Numbers.f k (ws.drop 1) 1 = some (a1, false)) (hW : (rdOf ByteArray.empty ws 0).toList = [99, 117, 116]) :
  Calls Tryz.prog 9 #[.pointer (some ⟨p, 0, none⟩), .slice Aw ws.length cw] w fun e w' => e = .returned (.string (⟨#[98, 97, 100]⟩ : ByteArray)) ∧ St 35 w' w0.heap.size p L nm B ∧ Below w0.heap.size w0 w' := by
 obtain ⟨vT, vB, hBK, hT, hH, hp⟩ := hS
 obtain ⟨A, c, rfl, hlc, hC⟩ := Kd.S_reads hT
 obtain ⟨Ab, cb, rfl, hlb, hCb⟩ := Kd.R_reads hH
 have BKp := ra hBK; have HT := ra hT; have HH := ra hH; have HC := ra hC; have HCB := ra hCb; have HLC := ra hlc; have HLB := ra hlb; have HB := ra hB; have HWG := ra hWG; have GEp := ra hp; have HW := ra hrw; have HLW := ra hcw; have Z0 := ra h6; have Z1 := ra h1; have H0 := ra h0
 obtain ⟨Z2, Z3, _, hsz_, _⟩ := info_parts info9
 have hcut := cut_from (P := Tryz.prog) 27 9 .i64 Tryz.underlying27 Z3 1 hsz_ Aw ws.length cw 1 (by omega) (by omega)
 have htl := Kd.C_drop (m := (1 : Int).toNat) (c := cw) hrw (by have e_ : (1 : Int).toNat = 1 := rfl; omega) hcw
 obtain ⟨Z4, Z5⟩ : ∃ Z4, Z4 = (if cw = (1 : Int).toNat then Aw else (Aw : Option Addr).map (·.add ((1 : Int).toNat * 1))) := ⟨_, rfl⟩
 obtain ⟨Z6, Z7⟩ : ∃ Z6, Z6 = cw - (1 : Int).toNat := ⟨_, rfl⟩
 obtain ⟨tl, htl_⟩ : ∃ tl, tl = ws.drop 1 := ⟨_, rfl⟩
 have hy : tl.length = ws.length - (1 : Int).toNat := by rw [htl_, List.length_drop]; rfl
 replace htl : Kd.C Kd.string w Z4 tl.length tl := by rw [Z5, htl_]; exact htl
 rw [← hy, ← Z5, ← Z7] at hcut
 rw [← htl_] at Z0 Z1
 have HTL := ra htl
 have HTC := ra (show tl.length ≤ Z6 from by rw [hy, Z7]; exact Nat.sub_le_sub_right hcw _)
 clear hBK hT hH hC hCb hlc hlb hB hWG hp h6 h1 htl hy Z5 Z7 htl_
 obtain ⟨fw_tube, fw_box, fw_put, fw_drop, fw_all, fw_with, fw_meet, fw_cut, fw_free⟩ := fs_cut hW
 have Z8 := ki 0 (ws.length : Int)
 have Z9 : (0 < ws.length) = True := eq_true h0
 obtain ⟨adw, ew, Z10⟩ := Kd.at_string hrw 0 (Int.le_refl _) (by omega); cases ew; replace Z10 := Sn.s0 Z10
 clear hrw hcw hW
 have Z11 := Tryz.underlying35; have Z12 := Tryz.underlying55; have Z13 := Tryz.underlying33
 go_enter Tryz.func9, Tryz.ntmps9
 go_wp2_with (first | ((with_reducible refine gc 18 rfl ?_); refine gm (some 12) Tryz.func18 (spec_l7Numbers.calls _ _ _ _ _ _ _ _ HTL.out HTC.out Z0.out) ?_; rintro e Z14 ⟨Z15, rfl, Z16, hb⟩; obtain ⟨An, cn, rfl, hln, hCn⟩ := Kd.R_reads Z16; refine ⟨_, rfl, ?_⟩; have HNI := ra hCn; have HLN := ra hln; replace HTL := ra (Kd.C_below HTL.out hb); replace BKp := bb (bk BKp) hb; replace HB := bs hb; replace HT := Sn.bT HT hb; replace HH := Sn.bH HH hb; replace HC := Sn.bC HC hb; replace HCB := Sn.bC HCB hb; replace Z10 := Sn.cb hb Z10; clear hb Z16 hCn hln) | ((with_reducible refine gc 18 rfl ?_); refine gm (some 18) Tryz.func18 (spec_l7Numbers.calls _ _ _ _ _ _ _ _ HTL.out HTC.out Z1.out) ?_; rintro e Z17 ⟨Z15, rfl, Z16, hb⟩; obtain ⟨Am, cm, rfl, hlm, hCm⟩ := Kd.R_reads Z16; refine ⟨_, rfl, ?_⟩; have HMI := ra hCm; have HLM := ra hlm; replace HNI := ra (Kd.C_below HNI.out hb); replace BKp := bb (bk BKp) hb; replace HB := bs hb; replace HT := Sn.bT HT hb; replace HH := Sn.bH HH hb; replace HC := Sn.bC HC hb; replace HCB := Sn.bC HCB hb; replace Z10 := Sn.cb hb Z10; clear hb Z16 hCm hlm HTL; obtain ⟨Z18, Z19, Z20, Z21, Z22, Z23⟩ := Sn.zc3 BKp))
 go_ret
 exact ⟨re, ⟨_, _, bk BKp, Sn.qS HT, Sn.qR HH, GEp.out⟩, bq⟩
theorem Sn.sl_freeBad (k p : Nat) (L : List S33) (nm : ByteArray) (B : List S46) (Aw : Option Addr) (cw : Nat) (ws : List ByteArray) (a6 a1 : List Int) (o6 o1 : Bool) (w0 w : World) (hB : Below w0.heap.size w0 w) (hWG : Lb.WG w0) (hS : St 35 w w0.heap.size p L nm B) (hrw : Kd.C Kd.string w Aw ws.length ws) (hcw : ws.length ≤ cw) (h0 : 0 < ws.length) (h6 : spec_l7Numbers.f k (ws.drop 1) 6 = some (a6, o6)) (h1 : spec_l7Numbers.f k (ws.drop 1) 1 = some (a1, o1)) (hW : (rdOf ByteArray.empty ws 0).toList = [102, 114, 101, 101]) (hlen : ws.length ≠ 1) :
  Calls Tryz.prog 9 #[.pointer (some ⟨p, 0, none⟩), .slice Aw ws.length cw] w fun e w' => e = .returned (.string (⟨#[98, 97, 100]⟩ : ByteArray)) ∧ St 35 w' w0.heap.size p L nm B ∧ Below w0.heap.size w0 w' := by
 obtain ⟨vT, vB, hBK, hT, hH, hp⟩ := hS
 obtain ⟨A, c, rfl, hlc, hC⟩ := Kd.S_reads hT
 obtain ⟨Ab, cb, rfl, hlb, hCb⟩ := Kd.R_reads hH
 have BKp := ra hBK; have HT := ra hT; have HH := ra hH; have HC := ra hC; have HCB := ra hCb; have HLC := ra hlc; have HLB := ra hlb; have HB := ra hB; have HWG := ra hWG; have GEp := ra hp; have HW := ra hrw; have HLW := ra hcw; have Z0 := ra h6; have Z1 := ra h1; have H0 := ra h0
 obtain ⟨Z2, Z3, _, hsz_, _⟩ := info_parts info9
 have hcut := cut_from (P := Tryz.prog) 27 9 .i64 Tryz.underlying27 Z3 1 hsz_ Aw ws.length cw 1 (by omega) (by omega)
 have htl := Kd.C_drop (m := (1 : Int).toNat) (c := cw) hrw (by have e_ : (1 : Int).toNat = 1 := rfl; omega) hcw
 obtain ⟨Z4, Z5⟩ : ∃ Z4, Z4 = (if cw = (1 : Int).toNat then Aw else (Aw : Option Addr).map (·.add ((1 : Int).toNat * 1))) := ⟨_, rfl⟩
 obtain ⟨Z6, Z7⟩ : ∃ Z6, Z6 = cw - (1 : Int).toNat := ⟨_, rfl⟩
 obtain ⟨tl, htl_⟩ : ∃ tl, tl = ws.drop 1 := ⟨_, rfl⟩
 have hy : tl.length = ws.length - (1 : Int).toNat := by rw [htl_, List.length_drop]; rfl
 replace htl : Kd.C Kd.string w Z4 tl.length tl := by rw [Z5, htl_]; exact htl
 rw [← hy, ← Z5, ← Z7] at hcut
 rw [← htl_] at Z0 Z1
 have HTL := ra htl
 have HTC := ra (show tl.length ≤ Z6 from by rw [hy, Z7]; exact Nat.sub_le_sub_right hcw _)
 clear hBK hT hH hC hCb hlc hlb hB hWG hp h6 h1 htl hy Z5 Z7 htl_
 obtain ⟨fw_tube, fw_box, fw_put, fw_drop, fw_all, fw_with, fw_meet, fw_cut, fw_free⟩ := fs_free hW
 have fn : ((ws.length : Int) == 1) = false := beq_eq_false_iff_ne.mpr (by omega)
 have Z8 := ki 0 (ws.length : Int)
 have Z9 : (0 < ws.length) = True := eq_true h0
 obtain ⟨adw, ew, Z10⟩ := Kd.at_string hrw 0 (Int.le_refl _) (by omega); cases ew; replace Z10 := Sn.s0 Z10
 clear hrw hcw hW hlen
 have Z11 := Tryz.underlying35; have Z12 := Tryz.underlying55; have Z13 := Tryz.underlying33
 go_enter Tryz.func9, Tryz.ntmps9
 go_wp2_with (first | ((with_reducible refine gc 18 rfl ?_); refine gm (some 12) Tryz.func18 (spec_l7Numbers.calls _ _ _ _ _ _ _ _ HTL.out HTC.out Z0.out) ?_; rintro e Z14 ⟨Z15, rfl, Z16, hb⟩; obtain ⟨An, cn, rfl, hln, hCn⟩ := Kd.R_reads Z16; refine ⟨_, rfl, ?_⟩; have HNI := ra hCn; have HLN := ra hln; replace HTL := ra (Kd.C_below HTL.out hb); replace BKp := bb (bk BKp) hb; replace HB := bs hb; replace HT := Sn.bT HT hb; replace HH := Sn.bH HH hb; replace HC := Sn.bC HC hb; replace HCB := Sn.bC HCB hb; replace Z10 := Sn.cb hb Z10; clear hb Z16 hCn hln) | ((with_reducible refine gc 18 rfl ?_); refine gm (some 18) Tryz.func18 (spec_l7Numbers.calls _ _ _ _ _ _ _ _ HTL.out HTC.out Z1.out) ?_; rintro e Z17 ⟨Z15, rfl, Z16, hb⟩; obtain ⟨Am, cm, rfl, hlm, hCm⟩ := Kd.R_reads Z16; refine ⟨_, rfl, ?_⟩; have HMI := ra hCm; have HLM := ra hlm; replace HNI := ra (Kd.C_below HNI.out hb); replace BKp := bb (bk BKp) hb; replace HB := bs hb; replace HT := Sn.bT HT hb; replace HH := Sn.bH HH hb; replace HC := Sn.bC HC hb; replace HCB := Sn.bC HCB hb; replace Z10 := Sn.cb hb Z10; clear hb Z16 hCm hlm HTL; obtain ⟨Z18, Z19, Z20, Z21, Z22, Z23⟩ := Sn.zc3 BKp))
 go_ret
 exact ⟨re, ⟨_, _, bk BKp, Sn.qS HT, Sn.qR HH, GEp.out⟩, bq⟩
theorem Sn.sl_bad (k p : Nat) (L : List S33) (nm : ByteArray) (B : List S46) (Aw : Option Addr) (cw : Nat) (ws : List ByteArray) (a6 a1 : List Int) (o6 o1 : Bool) (w0 w : World) (hB : Below w0.heap.size w0 w) (hWG : Lb.WG w0) (hS : St 35 w w0.heap.size p L nm B) (hrw : Kd.C Kd.string w Aw ws.length ws) (hcw : ws.length ≤ cw) (h0 : 0 < ws.length) (h6 : spec_l7Numbers.f k (ws.drop 1) 6 = some (a6, o6)) (h1 : spec_l7Numbers.f k (ws.drop 1) 1 = some (a1, o1)) (hn_tube : (rdOf ByteArray.empty ws 0).toList ≠ [116, 117, 98, 101]) (hn_box : (rdOf ByteArray.empty ws 0).toList ≠ [98, 111, 120]) (hn_put : (rdOf ByteArray.empty ws 0).toList ≠ [112, 117, 116]) (hn_drop : (rdOf ByteArray.empty ws 0).toList ≠ [100, 114, 111, 112]) (hn_all : (rdOf ByteArray.empty ws 0).toList ≠ [97, 108, 108]) (hn_with : (rdOf ByteArray.empty ws 0).toList ≠ [119, 105, 116, 104]) (hn_meet : (rdOf ByteArray.empty ws 0).toList ≠ [109, 101, 101, 116]) (hn_cut : (rdOf ByteArray.empty ws 0).toList ≠ [99, 117, 116]) (hn_free : (rdOf ByteArray.empty ws 0).toList ≠ [102, 114, 101, 101]) :
  Calls Tryz.prog 9 #[.pointer (some ⟨p, 0, none⟩), .slice Aw ws.length cw] w fun e w' => e = .returned (.string (⟨#[98, 97, 100]⟩ : ByteArray)) ∧ St 35 w' w0.heap.size p L nm B ∧ Below w0.heap.size w0 w' := by
 obtain ⟨vT, vB, hBK, hT, hH, hp⟩ := hS
 obtain ⟨A, c, rfl, hlc, hC⟩ := Kd.S_reads hT
 obtain ⟨Ab, cb, rfl, hlb, hCb⟩ := Kd.R_reads hH
 have BKp := ra hBK; have HT := ra hT; have HH := ra hH; have HC := ra hC; have HCB := ra hCb; have HLC := ra hlc; have HLB := ra hlb; have HB := ra hB; have HWG := ra hWG; have GEp := ra hp; have HW := ra hrw; have HLW := ra hcw; have Z0 := ra h6; have Z1 := ra h1; have H0 := ra h0
 obtain ⟨Z2, Z3, _, hsz_, _⟩ := info_parts info9
 have hcut := cut_from (P := Tryz.prog) 27 9 .i64 Tryz.underlying27 Z3 1 hsz_ Aw ws.length cw 1 (by omega) (by omega)
 have htl := Kd.C_drop (m := (1 : Int).toNat) (c := cw) hrw (by have e_ : (1 : Int).toNat = 1 := rfl; omega) hcw
 obtain ⟨Z4, Z5⟩ : ∃ Z4, Z4 = (if cw = (1 : Int).toNat then Aw else (Aw : Option Addr).map (·.add ((1 : Int).toNat * 1))) := ⟨_, rfl⟩
 obtain ⟨Z6, Z7⟩ : ∃ Z6, Z6 = cw - (1 : Int).toNat := ⟨_, rfl⟩
 obtain ⟨tl, htl_⟩ : ∃ tl, tl = ws.drop 1 := ⟨_, rfl⟩
 have hy : tl.length = ws.length - (1 : Int).toNat := by rw [htl_, List.length_drop]; rfl
 replace htl : Kd.C Kd.string w Z4 tl.length tl := by rw [Z5, htl_]; exact htl
 rw [← hy, ← Z5, ← Z7] at hcut
 rw [← htl_] at Z0 Z1
 have HTL := ra htl
 have HTC := ra (show tl.length ≤ Z6 from by rw [hy, Z7]; exact Nat.sub_le_sub_right hcw _)
 clear hBK hT hH hC hCb hlc hlb hB hWG hp h6 h1 htl hy Z5 Z7 htl_
 have fw_tube := beq_eq_false_iff_ne.mpr hn_tube
 have fw_box := beq_eq_false_iff_ne.mpr hn_box
 have fw_put := beq_eq_false_iff_ne.mpr hn_put
 have fw_drop := beq_eq_false_iff_ne.mpr hn_drop
 have fw_all := beq_eq_false_iff_ne.mpr hn_all
 have fw_with := beq_eq_false_iff_ne.mpr hn_with
 have fw_meet := beq_eq_false_iff_ne.mpr hn_meet
 have fw_cut := beq_eq_false_iff_ne.mpr hn_cut
 have fw_free := beq_eq_false_iff_ne.mpr hn_free
 have Z8 := ki 0 (ws.length : Int)
 have Z9 : (0 < ws.length) = True := eq_true h0
 obtain ⟨adw, ew, Z10⟩ := Kd.at_string hrw 0 (Int.le_refl _) (by omega); cases ew; replace Z10 := Sn.s0 Z10
 clear hrw hcw hn_tube hn_box hn_put hn_drop hn_all hn_with hn_meet hn_cut hn_free
 have Z11 := Tryz.underlying35; have Z12 := Tryz.underlying55; have Z13 := Tryz.underlying33
 go_enter Tryz.func9, Tryz.ntmps9
 go_wp2_with (first | ((with_reducible refine gc 18 rfl ?_); refine gm (some 12) Tryz.func18 (spec_l7Numbers.calls _ _ _ _ _ _ _ _ HTL.out HTC.out Z0.out) ?_; rintro e Z14 ⟨Z15, rfl, Z16, hb⟩; obtain ⟨An, cn, rfl, hln, hCn⟩ := Kd.R_reads Z16; refine ⟨_, rfl, ?_⟩; have HNI := ra hCn; have HLN := ra hln; replace HTL := ra (Kd.C_below HTL.out hb); replace BKp := bb (bk BKp) hb; replace HB := bs hb; replace HT := Sn.bT HT hb; replace HH := Sn.bH HH hb; replace HC := Sn.bC HC hb; replace HCB := Sn.bC HCB hb; replace Z10 := Sn.cb hb Z10; clear hb Z16 hCn hln) | ((with_reducible refine gc 18 rfl ?_); refine gm (some 18) Tryz.func18 (spec_l7Numbers.calls _ _ _ _ _ _ _ _ HTL.out HTC.out Z1.out) ?_; rintro e Z17 ⟨Z15, rfl, Z16, hb⟩; obtain ⟨Am, cm, rfl, hlm, hCm⟩ := Kd.R_reads Z16; refine ⟨_, rfl, ?_⟩; have HMI := ra hCm; have HLM := ra hlm; replace HNI := ra (Kd.C_below HNI.out hb); replace BKp := bb (bk BKp) hb; replace HB := bs hb; replace HT := Sn.bT HT hb; replace HH := Sn.bH HH hb; replace HC := Sn.bC HC hb; replace HCB := Sn.bC HCB hb; replace Z10 := Sn.cb hb Z10; clear hb Z16 hCm hlm HTL; obtain ⟨Z18, Z19, Z20, Z21, Z22, Z23⟩ := Sn.zc3 BKp))
 go_ret
 exact ⟨re, ⟨_, _, bk BKp, Sn.qS HT, Sn.qR HH, GEp.out⟩, bq⟩
theorem Sn.sl_tube (k p : Nat) (L : List S33) (nm : ByteArray) (B : List S46) (Aw : Option Addr) (cw : Nat) (ws : List ByteArray) (a6 a1 : List Int) (o6 o1 : Bool) (w0 w : World) (hB : Below w0.heap.size w0 w) (hWG : Lb.WG w0) (hS : St 35 w w0.heap.size p L nm B) (hrw : Kd.C Kd.string w Aw ws.length ws) (hcw : ws.length ≤ cw) (h0 : 0 < ws.length) (h6 : spec_l7Numbers.f k (ws.drop 1) 6 = some (a6, o6)) (h1 : spec_l7Numbers.f k (ws.drop 1) 1 = some (a1, o1)) (hW : (rdOf ByteArray.empty ws 0).toList = [116, 117, 98, 101]) (hlen : ws.length = 2) :
  Calls Tryz.prog 9 #[.pointer (some ⟨p, 0, none⟩), .slice Aw ws.length cw] w fun e w' => e = .returned (.string (⟨#[111, 107]⟩ : ByteArray)) ∧ St 35 w' w0.heap.size p L (rdOf ByteArray.empty ws 1) [] ∧ Below w0.heap.size w0 w' := by
 obtain ⟨vT, vB, hBK, hT, hH, hp⟩ := hS
 obtain ⟨A, c, rfl, hlc, hC⟩ := Kd.S_reads hT
 obtain ⟨Ab, cb, rfl, hlb, hCb⟩ := Kd.R_reads hH
 have BKp := ra hBK; have HT := ra hT; have HH := ra hH; have HC := ra hC; have HCB := ra hCb; have HLC := ra hlc; have HLB := ra hlb; have HB := ra hB; have HWG := ra hWG; have GEp := ra hp; have HW := ra hrw; have HLW := ra hcw; have Z0 := ra h6; have Z1 := ra h1; have H0 := ra h0
 obtain ⟨Z2, Z3, _, hsz_, _⟩ := info_parts info9
 have hcut := cut_from (P := Tryz.prog) 27 9 .i64 Tryz.underlying27 Z3 1 hsz_ Aw ws.length cw 1 (by omega) (by omega)
 have htl := Kd.C_drop (m := (1 : Int).toNat) (c := cw) hrw (by have e_ : (1 : Int).toNat = 1 := rfl; omega) hcw
 obtain ⟨Z4, Z5⟩ : ∃ Z4, Z4 = (if cw = (1 : Int).toNat then Aw else (Aw : Option Addr).map (·.add ((1 : Int).toNat * 1))) := ⟨_, rfl⟩
 obtain ⟨Z6, Z7⟩ : ∃ Z6, Z6 = cw - (1 : Int).toNat := ⟨_, rfl⟩
 obtain ⟨tl, htl_⟩ : ∃ tl, tl = ws.drop 1 := ⟨_, rfl⟩
 have hy : tl.length = ws.length - (1 : Int).toNat := by rw [htl_, List.length_drop]; rfl
 replace htl : Kd.C Kd.string w Z4 tl.length tl := by rw [Z5, htl_]; exact htl
 rw [← hy, ← Z5, ← Z7] at hcut
 rw [← htl_] at Z0 Z1
 have HTL := ra htl
 have HTC := ra (show tl.length ≤ Z6 from by rw [hy, Z7]; exact Nat.sub_le_sub_right hcw _)
 clear hBK hT hH hC hCb hlc hlb hB hWG hp h6 h1 htl hy Z5 Z7 htl_
 obtain ⟨fw_tube, fw_box, fw_put, fw_drop, fw_all, fw_with, fw_meet, fw_cut, fw_free⟩ := fs_tube hW
 have fn : ((ws.length : Int) == 2) = true := beq_iff_eq.mpr (by omega)
 have Z8 := ki 0 (ws.length : Int)
 have Z9 : (0 < ws.length) = True := eq_true h0
 obtain ⟨adw, ew, Z10⟩ := Kd.at_string hrw 0 (Int.le_refl _) (by omega); cases ew; replace Z10 := Sn.s0 Z10
 obtain ⟨_, ew, Z11⟩ := Kd.at_string hrw 1 (by omega) (by omega); cases ew; replace Z11 := Sn.s1 (i := 0) Z11
 have Z12 := ki 1 (ws.length : Int)
 clear hrw hcw hW hlen
 have Z13 := Tryz.underlying35; have Z14 := Tryz.underlying55; have Z15 := Tryz.underlying33
 go_enter Tryz.func9, Tryz.ntmps9
 go_wp2_with (first | ((with_reducible refine gc 18 rfl ?_); refine gm (some 12) Tryz.func18 (spec_l7Numbers.calls _ _ _ _ _ _ _ _ HTL.out HTC.out Z0.out) ?_; rintro e Z16 ⟨Z17, rfl, Z18, hb⟩; obtain ⟨An, cn, rfl, hln, hCn⟩ := Kd.R_reads Z18; refine ⟨_, rfl, ?_⟩; have HNI := ra hCn; have HLN := ra hln; replace HTL := ra (Kd.C_below HTL.out hb); replace BKp := bb (bk BKp) hb; replace HB := bs hb; replace HT := Sn.bT HT hb; replace HH := Sn.bH HH hb; replace HC := Sn.bC HC hb; replace HCB := Sn.bC HCB hb; replace Z10 := Sn.cb hb Z10; replace Z11 := Sn.cb hb Z11; clear hb Z18 hCn hln) | ((with_reducible refine gc 18 rfl ?_); refine gm (some 18) Tryz.func18 (spec_l7Numbers.calls _ _ _ _ _ _ _ _ HTL.out HTC.out Z1.out) ?_; rintro e Z19 ⟨Z17, rfl, Z18, hb⟩; obtain ⟨Am, cm, rfl, hlm, hCm⟩ := Kd.R_reads Z18; refine ⟨_, rfl, ?_⟩; have HMI := ra hCm; have HLM := ra hlm; replace HNI := ra (Kd.C_below HNI.out hb); replace BKp := bb (bk BKp) hb; replace HB := bs hb; replace HT := Sn.bT HT hb; replace HH := Sn.bH HH hb; replace HC := Sn.bC HC hb; replace HCB := Sn.bC HCB hb; replace Z10 := Sn.cb hb Z10; replace Z11 := Sn.cb hb Z11; clear hb Z18 hCm hlm HTL; obtain ⟨Z20, Z21, Z22, Z23, Z24, Z25⟩ := Sn.zc3 BKp))
 go_ret
 exact ⟨re, ⟨.slice A L.length c, .slice none 0 0, bp BKp, Kd.S_mono (Sn.setT (Sn.setT HT.out BKp.out (by decide)) (bp (cs2 := #[.slice A L.length c, .string (rdOf ByteArray.empty ws 1), .slice Ab B.length cb]) BKp) (by decide)) (fun k_ _ => by simp [Value.ownBlock]), Kd.R_nil _ _ _ _ _, GEp.out⟩, bq⟩
theorem Sn.sl_put (k p : Nat) (L : List S33) (nm : ByteArray) (B : List S46) (Aw : Option Addr) (cw : Nat) (ws : List ByteArray) (a6 a1 : List Int) (o6 o1 : Bool) (w0 w : World) (hB : Below w0.heap.size w0 w) (hWG : Lb.WG w0) (hS : St 35 w w0.heap.size p L nm B) (hrw : Kd.C Kd.string w Aw ws.length ws) (hcw : ws.length ≤ cw) (h0 : 0 < ws.length) (h6 : spec_l7Numbers.f k (ws.drop 1) 6 = some (a6, o6)) (h1 : spec_l7Numbers.f k (ws.drop 1) 1 = some (a1, o1)) (hW : (rdOf ByteArray.empty ws 0).toList = [112, 117, 116]) (hlen : ws.length = 1) (r : ByteArray) (st' : Sx) (hhp : spec_s_happen.f k (L, nm, B) false nm B = some (r, st')) :
  Calls Tryz.prog 9 #[.pointer (some ⟨p, 0, none⟩), .slice Aw ws.length cw] w fun e w' => e = .returned (.string r) ∧ St 35 w' w0.heap.size p st'.1 st'.2.1 st'.2.2 ∧ Below w0.heap.size w0 w' := by
 obtain ⟨vT, vB, hBK, hT, hH, hp⟩ := hS
 obtain ⟨A, c, rfl, hlc, hC⟩ := Kd.S_reads hT
 obtain ⟨Ab, cb, rfl, hlb, hCb⟩ := Kd.R_reads hH
 have BKp := ra hBK; have HT := ra hT; have HH := ra hH; have HC := ra hC; have HCB := ra hCb; have HLC := ra hlc; have HLB := ra hlb; have HB := ra hB; have HWG := ra hWG; have GEp := ra hp; have HW := ra hrw; have HLW := ra hcw; have Z0 := ra h6; have Z1 := ra h1; have H0 := ra h0
 obtain ⟨Z2, Z3, _, hsz_, _⟩ := info_parts info9
 have hcut := cut_from (P := Tryz.prog) 27 9 .i64 Tryz.underlying27 Z3 1 hsz_ Aw ws.length cw 1 (by omega) (by omega)
 have htl := Kd.C_drop (m := (1 : Int).toNat) (c := cw) hrw (by have e_ : (1 : Int).toNat = 1 := rfl; omega) hcw
 obtain ⟨Z4, Z5⟩ : ∃ Z4, Z4 = (if cw = (1 : Int).toNat then Aw else (Aw : Option Addr).map (·.add ((1 : Int).toNat * 1))) := ⟨_, rfl⟩
 obtain ⟨Z6, Z7⟩ : ∃ Z6, Z6 = cw - (1 : Int).toNat := ⟨_, rfl⟩
 obtain ⟨tl, htl_⟩ : ∃ tl, tl = ws.drop 1 := ⟨_, rfl⟩
 have hy : tl.length = ws.length - (1 : Int).toNat := by rw [htl_, List.length_drop]; rfl
 replace htl : Kd.C Kd.string w Z4 tl.length tl := by rw [Z5, htl_]; exact htl
 rw [← hy, ← Z5, ← Z7] at hcut
 rw [← htl_] at Z0 Z1
 have HTL := ra htl
 have HTC := ra (show tl.length ≤ Z6 from by rw [hy, Z7]; exact Nat.sub_le_sub_right hcw _)
 clear hBK hT hH hC hCb hlc hlb hB hWG hp h6 h1 htl hy Z5 Z7 htl_
 obtain ⟨fw_tube, fw_box, fw_put, fw_drop, fw_all, fw_with, fw_meet, fw_cut, fw_free⟩ := fs_put hW
 have fn : ((ws.length : Int) == 1) = true := beq_iff_eq.mpr (by omega)
 have Z8 := ki 0 (ws.length : Int)
 have Z9 : (0 < ws.length) = True := eq_true h0
 obtain ⟨adw, ew, Z10⟩ := Kd.at_string hrw 0 (Int.le_refl _) (by omega); cases ew; replace Z10 := Sn.s0 Z10
 have HHP := ra hhp; clear hhp
 clear hrw hcw hW hlen
 have Z11 := Tryz.underlying35; have Z12 := Tryz.underlying55; have Z13 := Tryz.underlying33
 go_enter Tryz.func9, Tryz.ntmps9
 go_wp2_with (first | ((with_reducible refine gc 18 rfl ?_); refine gm (some 12) Tryz.func18 (spec_l7Numbers.calls _ _ _ _ _ _ _ _ HTL.out HTC.out Z0.out) ?_; rintro e Z14 ⟨Z15, rfl, Z16, hb⟩; obtain ⟨An, cn, rfl, hln, hCn⟩ := Kd.R_reads Z16; refine ⟨_, rfl, ?_⟩; have HNI := ra hCn; have HLN := ra hln; replace HTL := ra (Kd.C_below HTL.out hb); replace BKp := bb (bk BKp) hb; replace HB := bs hb; replace HT := Sn.bT HT hb; replace HH := Sn.bH HH hb; replace HC := Sn.bC HC hb; replace HCB := Sn.bC HCB hb; replace Z10 := Sn.cb hb Z10; clear hb Z16 hCn hln) | ((with_reducible refine gc 18 rfl ?_); refine gm (some 18) Tryz.func18 (spec_l7Numbers.calls _ _ _ _ _ _ _ _ HTL.out HTC.out Z1.out) ?_; rintro e Z17 ⟨Z15, rfl, Z16, hb⟩; obtain ⟨Am, cm, rfl, hlm, hCm⟩ := Kd.R_reads Z16; refine ⟨_, rfl, ?_⟩; have HMI := ra hCm; have HLM := ra hlm; replace HNI := ra (Kd.C_below HNI.out hb); replace BKp := bb (bk BKp) hb; replace HB := bs hb; replace HT := Sn.bT HT hb; replace HH := Sn.bH HH hb; replace HC := Sn.bC HC hb; replace HCB := Sn.bC HCB hb; replace Z10 := Sn.cb hb Z10; clear hb Z16 hCm hlm HTL; obtain ⟨Z18, Z19, Z20, Z21, Z22, Z23⟩ := Sn.zc3 BKp) | ((with_reducible refine gc 20 rfl ?_); refine gy (some 65) Tryz.func20 (spec_s_happen.calls _ _ _ _ _ _ _ _ _ _ _ _ _ _ bq HWG.out (Sn.mk (bk BKp) (Sn.qS HT) (Sn.qR HH) GEp.out) (fun _ => True) (Kd.R_V HH.out) HHP.out) ?_; rintro Z24 ⟨hst, hb⟩; have HST := ra hst; have _ := ra hb; clear BKp HB HT HH HC HCB Z18 Z19 Z20 Z21 Z22 Z23; rename_i HB; clear hst hb))
 go_ret
 exact ⟨re, HST.out, bq⟩
theorem Sn.sl_drop (k p : Nat) (L : List S33) (nm : ByteArray) (B : List S46) (Aw : Option Addr) (cw : Nat) (ws : List ByteArray) (a6 a1 : List Int) (o6 o1 : Bool) (w0 w : World) (hB : Below w0.heap.size w0 w) (hWG : Lb.WG w0) (hS : St 35 w w0.heap.size p L nm B) (hrw : Kd.C Kd.string w Aw ws.length ws) (hcw : ws.length ≤ cw) (h0 : 0 < ws.length) (h6 : spec_l7Numbers.f k (ws.drop 1) 6 = some (a6, o6)) (h1 : spec_l7Numbers.f k (ws.drop 1) 1 = some (a1, o1)) (hW : (rdOf ByteArray.empty ws 0).toList = [100, 114, 111, 112]) (hlen : ws.length = 2) (r : ByteArray) (st' : Sx) (hhp : spec_s_happen.f k (L, nm, B) true (rdOf ByteArray.empty ws 1) [] = some (r, st')) :
  Calls Tryz.prog 9 #[.pointer (some ⟨p, 0, none⟩), .slice Aw ws.length cw] w fun e w' => e = .returned (.string r) ∧ St 35 w' w0.heap.size p st'.1 st'.2.1 st'.2.2 ∧ Below w0.heap.size w0 w' := by
 obtain ⟨vT, vB, hBK, hT, hH, hp⟩ := hS
 obtain ⟨A, c, rfl, hlc, hC⟩ := Kd.S_reads hT
 obtain ⟨Ab, cb, rfl, hlb, hCb⟩ := Kd.R_reads hH
 have BKp := ra hBK; have HT := ra hT; have HH := ra hH; have HC := ra hC; have HCB := ra hCb; have HLC := ra hlc; have HLB := ra hlb; have HB := ra hB; have HWG := ra hWG; have GEp := ra hp; have HW := ra hrw; have HLW := ra hcw; have Z0 := ra h6; have Z1 := ra h1; have H0 := ra h0
 obtain ⟨Z2, Z3, _, hsz_, _⟩ := info_parts info9
 have hcut := cut_from (P := Tryz.prog) 27 9 .i64 Tryz.underlying27 Z3 1 hsz_ Aw ws.length cw 1 (by omega) (by omega)
 have htl := Kd.C_drop (m := (1 : Int).toNat) (c := cw) hrw (by have e_ : (1 : Int).toNat = 1 := rfl; omega) hcw
 obtain ⟨Z4, Z5⟩ : ∃ Z4, Z4 = (if cw = (1 : Int).toNat then Aw else (Aw : Option Addr).map (·.add ((1 : Int).toNat * 1))) := ⟨_, rfl⟩
 obtain ⟨Z6, Z7⟩ : ∃ Z6, Z6 = cw - (1 : Int).toNat := ⟨_, rfl⟩
 obtain ⟨tl, htl_⟩ : ∃ tl, tl = ws.drop 1 := ⟨_, rfl⟩
 have hy : tl.length = ws.length - (1 : Int).toNat := by rw [htl_, List.length_drop]; rfl
 replace htl : Kd.C Kd.string w Z4 tl.length tl := by rw [Z5, htl_]; exact htl
 rw [← hy, ← Z5, ← Z7] at hcut
 rw [← htl_] at Z0 Z1
 have HTL := ra htl
 have HTC := ra (show tl.length ≤ Z6 from by rw [hy, Z7]; exact Nat.sub_le_sub_right hcw _)
 clear hBK hT hH hC hCb hlc hlb hB hWG hp h6 h1 htl hy Z5 Z7 htl_
 obtain ⟨fw_tube, fw_box, fw_put, fw_drop, fw_all, fw_with, fw_meet, fw_cut, fw_free⟩ := fs_drop hW
 have fn : ((ws.length : Int) == 2) = true := beq_iff_eq.mpr (by omega)
 have Z8 := ki 0 (ws.length : Int)
 have Z9 : (0 < ws.length) = True := eq_true h0
 obtain ⟨adw, ew, Z10⟩ := Kd.at_string hrw 0 (Int.le_refl _) (by omega); cases ew; replace Z10 := Sn.s0 Z10
 obtain ⟨_, ew, Z11⟩ := Kd.at_string hrw 1 (by omega) (by omega); cases ew; replace Z11 := Sn.s1 (i := 0) Z11
 have Z12 := ki 1 (ws.length : Int)
 have HHP := ra hhp; clear hhp
 clear hrw hcw hW hlen
 have Z13 := Tryz.underlying35; have Z14 := Tryz.underlying55; have Z15 := Tryz.underlying33
 go_enter Tryz.func9, Tryz.ntmps9
 go_wp2_with (first | ((with_reducible refine gc 18 rfl ?_); refine gm (some 12) Tryz.func18 (spec_l7Numbers.calls _ _ _ _ _ _ _ _ HTL.out HTC.out Z0.out) ?_; rintro e Z16 ⟨Z17, rfl, Z18, hb⟩; obtain ⟨An, cn, rfl, hln, hCn⟩ := Kd.R_reads Z18; refine ⟨_, rfl, ?_⟩; have HNI := ra hCn; have HLN := ra hln; replace HTL := ra (Kd.C_below HTL.out hb); replace BKp := bb (bk BKp) hb; replace HB := bs hb; replace HT := Sn.bT HT hb; replace HH := Sn.bH HH hb; replace HC := Sn.bC HC hb; replace HCB := Sn.bC HCB hb; replace Z10 := Sn.cb hb Z10; replace Z11 := Sn.cb hb Z11; clear hb Z18 hCn hln) | ((with_reducible refine gc 18 rfl ?_); refine gm (some 18) Tryz.func18 (spec_l7Numbers.calls _ _ _ _ _ _ _ _ HTL.out HTC.out Z1.out) ?_; rintro e Z19 ⟨Z17, rfl, Z18, hb⟩; obtain ⟨Am, cm, rfl, hlm, hCm⟩ := Kd.R_reads Z18; refine ⟨_, rfl, ?_⟩; have HMI := ra hCm; have HLM := ra hlm; replace HNI := ra (Kd.C_below HNI.out hb); replace BKp := bb (bk BKp) hb; replace HB := bs hb; replace HT := Sn.bT HT hb; replace HH := Sn.bH HH hb; replace HC := Sn.bC HC hb; replace HCB := Sn.bC HCB hb; replace Z10 := Sn.cb hb Z10; replace Z11 := Sn.cb hb Z11; clear hb Z18 hCm hlm HTL; obtain ⟨Z20, Z21, Z22, Z23, Z24, Z25⟩ := Sn.zc3 BKp) | ((with_reducible refine gc 20 rfl ?_); refine gy (some 82) Tryz.func20 (spec_s_happen.calls _ _ _ _ _ _ _ _ _ _ _ _ _ _ bq HWG.out (Sn.mk (bk BKp) (Sn.qS HT) (Sn.qR HH) GEp.out) (fun _ => True) (Kd.R_V (base := w0.heap.size) (Kd.R_nil _ _ _ _ _)) HHP.out) ?_; rintro Z26 ⟨hst, hb⟩; have HST := ra hst; have _ := ra hb; clear BKp HB HT HH HC HCB Z20 Z21 Z22 Z23 Z24 Z25; rename_i HB; clear hst hb))
 go_ret
 exact ⟨re, HST.out, bq⟩
theorem spec_s_box.calls (p : Nat) (L : List S33) (nm : ByteArray) (B : List S46) (An : Option Addr) (cn : Nat) (ns : List Int) (r : ByteArray) (st' : Sx) (w0 w : World) (hB : Below w0.heap.size w0 w) (hS : St 35 w w0.heap.size p L nm B) (hrn : Kd.C (Kd.int .i64) w An ns.length ns) (hcn : ns.length ≤ cn) (h : spec_s_box.f (L, nm, B) ns = some (r, st')) :
  Calls Tryz.prog 19 #[.pointer (some ⟨p, 0, none⟩), .slice An ns.length cn] w fun e w' => e = .returned (.string r) ∧ St 35 w' w0.heap.size p st'.1 st'.2.1 st'.2.2 ∧ Below w0.heap.size w0 w' := by
 obtain ⟨A, c, Ab, cb, BKp, HT, HH, HC, HCB, HLC, HLB, GEp⟩ := Sn.op hS
 have HB := ra hB; have HNI := ra hrn; have HCN := ra hcn
 clear hB hrn hcn
 unfold spec_s_box.f at h
 by_cases Z0 : 6 ≤ ns.length
 rotate_left
 ·rw [if_neg Z0] at h; cases h
 rw [if_pos Z0] at h
 obtain ⟨fine, hf, h⟩ := Option.bind_eq_some_iff.1 h
 dsimp only at h
 have HF := ra hf; clear hf
 cases fine with
 | false =>
  rw [if_neg (by simp)] at h
  obtain ⟨rfl, rfl⟩ := Prod.mk.inj (Option.some.inj h)
  clear h
  dsimp only
  have Z1 := Tryz.underlying35; have Z2 := Tryz.underlying33; have Z3 := Tryz.underlying46
  have Z4 := ki 0 (ns.length : Int); have Z5 := kn 0 ns.length
  have Z6 := ki 1 (ns.length : Int); have Z7 := kn 1 ns.length
  have Z8 := ki 2 (ns.length : Int); have Z9 := kn 2 ns.length
  have Z10 := ki 3 (ns.length : Int); have Z11 := kn 3 ns.length
  have Z12 := ki 4 (ns.length : Int); have Z13 := kn 4 ns.length
  have Z14 := ki 5 (ns.length : Int); have Z15 := kn 5 ns.length
  have Z16 := ra Z0; clear Z0
  go_enter Tryz.func19, Tryz.ntmps19
  try go_wp2
  have HNI := Sn.drC HNI; have _ := ra (blk_drew BKp.out); have _ := ra (below_drew1 HB.out); have _ := Sn.drT HT; have _ := Sn.drH HH; have _ := Sn.drC HC; have _ := Sn.drC HCB
  clear BKp HB HT HH HC HCB
  rename_i BKp HB HT HH HC HCB
  obtain ⟨adn, en, Z17⟩ := Kd.at_int HNI.out 0 (Int.le_refl _) (by have := Z16.out; omega); cases en; replace Z17 := Sn.s0 Z17
  obtain ⟨_, en, Z18⟩ := Kd.at_int HNI.out 1 (by omega) (by have := Z16.out; omega); cases en; replace Z18 := Sn.s1 (i := 0) Z18
  obtain ⟨_, en, Z19⟩ := Kd.at_int HNI.out 2 (by omega) (by have := Z16.out; omega); cases en; replace Z19 := Sn.s1 (i := 1) Z19
  obtain ⟨_, en, Z20⟩ := Kd.at_int HNI.out 3 (by omega) (by have := Z16.out; omega); cases en; replace Z20 := Sn.s1 (i := 2) Z20
  obtain ⟨_, en, Z21⟩ := Kd.at_int HNI.out 4 (by omega) (by have := Z16.out; omega); cases en; replace Z21 := Sn.s1 (i := 3) Z21
  obtain ⟨_, en, Z22⟩ := Kd.at_int HNI.out 5 (by omega) (by have := Z16.out; omega); cases en; replace Z22 := Sn.s1 (i := 4) Z22
  refine start_ (n := 21) (S := fun w' => w'.cell? adn = some (.int .i64 (rd ns 0)) ∧ w'.cell? ⟨adn.block, adn.off + 1, none⟩ = some (.int .i64 (rd ns 1)) ∧ w'.cell? ⟨adn.block, adn.off + 2, none⟩ = some (.int .i64 (rd ns 2)) ∧ w'.cell? ⟨adn.block, adn.off + 3, none⟩ = some (.int .i64 (rd ns 3)) ∧ w'.cell? ⟨adn.block, adn.off + 4, none⟩ = some (.int .i64 (rd ns 4)) ∧ w'.cell? ⟨adn.block, adn.off + 5, none⟩ = some (.int .i64 (rd ns 5))) (ds := [20]) #[false, false, false, false, false, false, false, false, false, false, false, false, false, false, false, false, false, false, false, false, false] (by kernel_rfl) rfl rfl ⟨Z17, Z18, Z19, Z20, Z21, Z22⟩ (fun hHeld => ?_)
  generalize w.drew = wd at BKp HB HT HH HC HCB HNI Z17 Z18 Z19 Z20 Z21 Z22 hHeld ⊢
  refine pu 0 6 (bl 21 1) ?_
  refine pu 1 7 (bl 21 3) ?_
  refine pu 3 9 (bl 21 11) ?_
  refine pu 4 10 (bl 21 27) ?_
  refine pu 6 12 (bl 21 91) ?_
  refine pu 7 13 (bl 21 219) ?_
  refine pu 9 15 (bl 21 731) ?_
  refine pu 10 16 (bl 21 1755) ?_
  refine pu 12 18 (bl 21 5851) ?_
  refine pu 13 19 (bl 21 14043) ?_
  refine pu 15 21 (bl 21 46811) ?_
  refine pu 16 22 (bl 21 112347) ?_
  refine tk 2 8 (bl 21 112351) ?_ hHeld
  refine tk 5 11 (bl 21 112383) ?_ hHeld
  refine tk 8 14 (bl 21 112639) ?_ hHeld
  refine tk 11 17 (bl 21 114687) ?_ hHeld
  refine tk 14 20 (bl 21 131071) ?_ hHeld
  refine tk 17 23 (bl 21 262143) ?_ hHeld
  refine pu 18 24 (bl 21 524287) ?_
  refine oe 19 5 (bl 21 1048575) (fun K hK => ?_)
  refine box_step ?hg (N := 5) ?hd (cs := #[.int .i64 0, .int .i64 0, .int .i64 0, .int .i64 0, .int .i64 0, .int .i64 0]) (t := 46) ?hr ?_; (case hd => rfl); (case hg => rfl); (case hr => first | (go_simp; done) | (go_simp; rfl))
  intro Z23 hg Z24 hbox hb
  have HBD := ra hb
  have _ := bb (bk BKp) hb
  have _ := bs hb
  have _ := ra (Kd.S_below (Kd.S_elderB (Sn.qS HT) Z23 (Nat.le_of_eq hg.symm)) hb)
  have _ := ra (Kd.R_below (Kd.R_elderB (Sn.qR HH) Z23 (Nat.le_of_eq hg.symm)) hb)
  have _ := ra hbox
  have _ := bz (w0 := w0) hg
  have _ := bn hg (bk BKp)
  have _ := bm hg (bk BKp)
  clear BKp HB HT HH HC HCB
  rename_i BKp HB HT HH Z25 Z26 Z27 Z28
  clear hb hbox hg
  have hnb := Z27.out
  have hnc := Z28.out
  obtain ⟨Z29, Z30, Z31, Z32, Z33, Z34, Z35, Z36, Z37, Z38, Z39, Z40⟩ := zc6 Z25
  refine hK.out _ _ ⟨hc HBD Z17, hc HBD Z18, hc HBD Z19, hc HBD Z20, hc HBD Z21, hc HBD Z22⟩ (fun hHeld => ?_)
  clear hK K
  refine Z.nm 5 ?_
  refine last_ (i := 20) (N := none) #[true, true, true, true, true, true, true, true, true, true, true, true, true, true, true, true, true, true, true, true, true] rfl rfl (by kernel_rfl) (by decide) (fun K hK => ?_)
  refine skip_ (w1 := ?_) (by rfl) rfl ?_ ?_
  rotate_left
  ·go_simp
   rfl
  refine hK.out _ _ ?_
  clear hK K
  refine done_ (by kernel_rfl) ?_
  have _ : Aside0 (((((((Z24.setCell ⟨Z23, 0, none⟩ (.int .i64 (rd ns 0))).setCell ⟨Z23, 1, none⟩ (.int .i64 (rd ns 1))).setCell ⟨Z23, 2, none⟩ (.int .i64 (rd ns 2))).setCell ⟨Z23, 3, none⟩ (.int .i64 (rd ns 3))).setCell ⟨Z23, 4, none⟩ (.int .i64 (rd ns 4))).setCell ⟨Z23, 5, none⟩ (.int .i64 (rd ns 5))).heap[p]? = some (.cells #[.slice A L.length c, .string nm, .slice Ab B.length cb] 35 (0, 0))) := ⟨bk BKp⟩
  have _ : Aside0 (Below w0.heap.size w0 ((((((Z24.setCell ⟨Z23, 0, none⟩ (.int .i64 (rd ns 0))).setCell ⟨Z23, 1, none⟩ (.int .i64 (rd ns 1))).setCell ⟨Z23, 2, none⟩ (.int .i64 (rd ns 2))).setCell ⟨Z23, 3, none⟩ (.int .i64 (rd ns 3))).setCell ⟨Z23, 4, none⟩ (.int .i64 (rd ns 4))).setCell ⟨Z23, 5, none⟩ (.int .i64 (rd ns 5)))) := ⟨bq⟩
  have _ := ra (Kd.S_mono (Kd.S_far (p := ⟨Z23, 5, none⟩) (Kd.S_far (p := ⟨Z23, 4, none⟩) (Kd.S_far (p := ⟨Z23, 3, none⟩) (Kd.S_far (p := ⟨Z23, 2, none⟩) (Kd.S_far (p := ⟨Z23, 1, none⟩) (Kd.S_far (p := ⟨Z23, 0, none⟩) HT.out (fun _ hk => hk.2) (.int .i64 (rd ns 0))) (fun _ hk => hk.2) (.int .i64 (rd ns 1))) (fun _ hk => hk.2) (.int .i64 (rd ns 2))) (fun _ hk => hk.2) (.int .i64 (rd ns 3))) (fun _ hk => hk.2) (.int .i64 (rd ns 4))) (fun _ hk => hk.2) (.int .i64 (rd ns 5))) (fun _ hk => hk.1))
  have _ := ra (Kd.R_mono (Kd.R_far (p := ⟨Z23, 5, none⟩) (Kd.R_far (p := ⟨Z23, 4, none⟩) (Kd.R_far (p := ⟨Z23, 3, none⟩) (Kd.R_far (p := ⟨Z23, 2, none⟩) (Kd.R_far (p := ⟨Z23, 1, none⟩) (Kd.R_far (p := ⟨Z23, 0, none⟩) HH.out (fun _ hk => hk.2) (.int .i64 (rd ns 0))) (fun _ hk => hk.2) (.int .i64 (rd ns 1))) (fun _ hk => hk.2) (.int .i64 (rd ns 2))) (fun _ hk => hk.2) (.int .i64 (rd ns 3))) (fun _ hk => hk.2) (.int .i64 (rd ns 4))) (fun _ hk => hk.2) (.int .i64 (rd ns 5))) (fun _ hk => hk.1))
  have _ : Aside0 (((((((Z24.setCell ⟨Z23, 0, none⟩ (.int .i64 (rd ns 0))).setCell ⟨Z23, 1, none⟩ (.int .i64 (rd ns 1))).setCell ⟨Z23, 2, none⟩ (.int .i64 (rd ns 2))).setCell ⟨Z23, 3, none⟩ (.int .i64 (rd ns 3))).setCell ⟨Z23, 4, none⟩ (.int .i64 (rd ns 4))).setCell ⟨Z23, 5, none⟩ (.int .i64 (rd ns 5))).heap[Z23]? = some (.cells #[.int .i64 (rd ns 0), .int .i64 (rd ns 1), .int .i64 (rd ns 2), .int .i64 (rd ns 3), .int .i64 (rd ns 4), .int .i64 (rd ns 5)] 46 (0, 0))) := ⟨bp Z25⟩
  clear BKp HB HT HH Z25
  rename_i BKp HB HT HH Z25
  clear Z29 Z30 Z31 Z32 Z33 Z34 Z35 Z36 Z37 Z38 Z39 Z40
  generalize ((((((Z24.setCell ⟨Z23, 0, none⟩ (.int .i64 (rd ns 0))).setCell ⟨Z23, 1, none⟩ (.int .i64 (rd ns 1))).setCell ⟨Z23, 2, none⟩ (.int .i64 (rd ns 2))).setCell ⟨Z23, 3, none⟩ (.int .i64 (rd ns 3))).setCell ⟨Z23, 4, none⟩ (.int .i64 (rd ns 4))).setCell ⟨Z23, 5, none⟩ (.int .i64 (rd ns 5))) = Z41 at BKp HB HT HH Z25 ⊢
  have HC := ra (Kd.S_reads' HT.out).2.2
  have HCB := ra (Kd.R_reads' HH.out).2.2
  obtain ⟨Z42, Z43, Z44, Z45, Z46, Z47⟩ := Sn.zc3 BKp
  obtain ⟨Z29, Z30, Z31, Z32, Z33, Z34, Z35, Z36, Z37, Z38, Z39, Z40⟩ := zc6 Z25
  go_wp2_with (first | ((with_reducible refine gc 45 rfl ?_); refine gy (some 26) Tryz.func45 (spec_ProbeBoxOk.calls _ _ _ _ _ _ _ _ HF.out) ?_; rintro Z48 hb; replace BKp := bb (bk BKp) hb; replace HB := bs hb; replace HT := Sn.bT HT hb; replace HH := Sn.bH HH hb; replace HC := Sn.bC HC hb; replace HCB := Sn.bC HCB hb; replace Z25 := bb (bk Z25) hb; clear Z42 Z43 Z44 Z45 Z46 Z47 Z29 Z30 Z31 Z32 Z33 Z34 Z35 Z36 Z37 Z38 Z39 Z40; obtain ⟨Z42, Z43, Z44, Z45, Z46, Z47⟩ := Sn.zc3 BKp; clear hb))
  go_ret
  exact ⟨re, ⟨_, _, bk BKp, Sn.qS HT, Sn.qR HH, GEp.out⟩, bq⟩
 | true =>
  by_cases Z1 : B.length < 40
  ·rw [if_pos ⟨rfl, Z1⟩] at h
   obtain ⟨rfl, rfl⟩ := Prod.mk.inj (Option.some.inj h)
   clear h
   dsimp only
   have Z2 := Z1
   clear Z1
   have Z3 := Tryz.underlying35; have Z4 := Tryz.underlying33; have Z5 := Tryz.underlying46
   have Z6 := ki 0 (ns.length : Int); have Z7 := kn 0 ns.length
   have Z8 := ki 1 (ns.length : Int); have Z9 := kn 1 ns.length
   have Z10 := ki 2 (ns.length : Int); have Z11 := kn 2 ns.length
   have Z12 := ki 3 (ns.length : Int); have Z13 := kn 3 ns.length
   have Z14 := ki 4 (ns.length : Int); have Z15 := kn 4 ns.length
   have Z16 := ki 5 (ns.length : Int); have Z17 := kn 5 ns.length
   have Z18 : decide ((40 : Int) ≤ (B.length : Int)) = false := decide_eq_false (by omega); have Z19 := ra Z2; clear Z2
   have Z20 := ra Z0; clear Z0
   go_enter Tryz.func19, Tryz.ntmps19
   try go_wp2
   have HNI := Sn.drC HNI; have _ := ra (blk_drew BKp.out); have _ := ra (below_drew1 HB.out); have _ := Sn.drT HT; have _ := Sn.drH HH; have _ := Sn.drC HC; have _ := Sn.drC HCB
   clear BKp HB HT HH HC HCB
   rename_i BKp HB HT HH HC HCB
   obtain ⟨adn, en, Z21⟩ := Kd.at_int HNI.out 0 (Int.le_refl _) (by have := Z20.out; omega); cases en; replace Z21 := Sn.s0 Z21
   obtain ⟨_, en, Z22⟩ := Kd.at_int HNI.out 1 (by omega) (by have := Z20.out; omega); cases en; replace Z22 := Sn.s1 (i := 0) Z22
   obtain ⟨_, en, Z23⟩ := Kd.at_int HNI.out 2 (by omega) (by have := Z20.out; omega); cases en; replace Z23 := Sn.s1 (i := 1) Z23
   obtain ⟨_, en, Z24⟩ := Kd.at_int HNI.out 3 (by omega) (by have := Z20.out; omega); cases en; replace Z24 := Sn.s1 (i := 2) Z24
   obtain ⟨_, en, Z25⟩ := Kd.at_int HNI.out 4 (by omega) (by have := Z20.out; omega); cases en; replace Z25 := Sn.s1 (i := 3) Z25
   obtain ⟨_, en, Z26⟩ := Kd.at_int HNI.out 5 (by omega) (by have := Z20.out; omega); cases en; replace Z26 := Sn.s1 (i := 4) Z26
   refine start_ (n := 21) (S := fun w' => w'.cell? adn = some (.int .i64 (rd ns 0)) ∧ w'.cell? ⟨adn.block, adn.off + 1, none⟩ = some (.int .i64 (rd ns 1)) ∧ w'.cell? ⟨adn.block, adn.off + 2, none⟩ = some (.int .i64 (rd ns 2)) ∧ w'.cell? ⟨adn.block, adn.off + 3, none⟩ = some (.int .i64 (rd ns 3)) ∧ w'.cell? ⟨adn.block, adn.off + 4, none⟩ = some (.int .i64 (rd ns 4)) ∧ w'.cell? ⟨adn.block, adn.off + 5, none⟩ = some (.int .i64 (rd ns 5))) (ds := [20]) #[false, false, false, false, false, false, false, false, false, false, false, false, false, false, false, false, false, false, false, false, false] (by kernel_rfl) rfl rfl ⟨Z21, Z22, Z23, Z24, Z25, Z26⟩ (fun hHeld => ?_)
   generalize w.drew = wd at BKp HB HT HH HC HCB HNI Z21 Z22 Z23 Z24 Z25 Z26 hHeld ⊢
   refine pu 0 6 (bl 21 1) ?_
   refine pu 1 7 (bl 21 3) ?_
   refine pu 3 9 (bl 21 11) ?_
   refine pu 4 10 (bl 21 27) ?_
   refine pu 6 12 (bl 21 91) ?_
   refine pu 7 13 (bl 21 219) ?_
   refine pu 9 15 (bl 21 731) ?_
   refine pu 10 16 (bl 21 1755) ?_
   refine pu 12 18 (bl 21 5851) ?_
   refine pu 13 19 (bl 21 14043) ?_
   refine pu 15 21 (bl 21 46811) ?_
   refine pu 16 22 (bl 21 112347) ?_
   refine tk 2 8 (bl 21 112351) ?_ hHeld
   refine tk 5 11 (bl 21 112383) ?_ hHeld
   refine tk 8 14 (bl 21 112639) ?_ hHeld
   refine tk 11 17 (bl 21 114687) ?_ hHeld
   refine tk 14 20 (bl 21 131071) ?_ hHeld
   refine tk 17 23 (bl 21 262143) ?_ hHeld
   refine pu 18 24 (bl 21 524287) ?_
   refine oe 19 5 (bl 21 1048575) (fun K hK => ?_)
   refine box_step ?hg (N := 5) ?hd (cs := #[.int .i64 0, .int .i64 0, .int .i64 0, .int .i64 0, .int .i64 0, .int .i64 0]) (t := 46) ?hr ?_; (case hd => rfl); (case hg => rfl); (case hr => first | (go_simp; done) | (go_simp; rfl))
   intro Z27 hg Z28 hbox hb
   have HBD := ra hb
   have _ := bb (bk BKp) hb
   have _ := bs hb
   have _ := ra (Kd.S_below (Kd.S_elderB (Sn.qS HT) Z27 (Nat.le_of_eq hg.symm)) hb)
   have _ := ra (Kd.R_below (Kd.R_elderB (Sn.qR HH) Z27 (Nat.le_of_eq hg.symm)) hb)
   have _ := ra hbox
   have _ := bz (w0 := w0) hg
   have _ := bn hg (bk BKp)
   have _ := bm hg (bk BKp)
   clear BKp HB HT HH HC HCB
   rename_i BKp HB HT HH Z29 Z30 Z31 Z32
   clear hb hbox hg
   have hnb := Z31.out
   have hnc := Z32.out
   obtain ⟨Z33, Z34, Z35, Z36, Z37, Z38, Z39, Z40, Z41, Z42, Z43, Z44⟩ := zc6 Z29
   refine hK.out _ _ ⟨hc HBD Z21, hc HBD Z22, hc HBD Z23, hc HBD Z24, hc HBD Z25, hc HBD Z26⟩ (fun hHeld => ?_)
   clear hK K
   refine Z.nm 5 ?_
   refine last_ (i := 20) (N := none) #[true, true, true, true, true, true, true, true, true, true, true, true, true, true, true, true, true, true, true, true, true] rfl rfl (by kernel_rfl) (by decide) (fun K hK => ?_)
   refine skip_ (w1 := ?_) (by rfl) rfl ?_ ?_
   rotate_left
   ·go_simp
    rfl
   refine hK.out _ _ ?_
   clear hK K
   refine done_ (by kernel_rfl) ?_
   have _ : Aside0 (((((((Z28.setCell ⟨Z27, 0, none⟩ (.int .i64 (rd ns 0))).setCell ⟨Z27, 1, none⟩ (.int .i64 (rd ns 1))).setCell ⟨Z27, 2, none⟩ (.int .i64 (rd ns 2))).setCell ⟨Z27, 3, none⟩ (.int .i64 (rd ns 3))).setCell ⟨Z27, 4, none⟩ (.int .i64 (rd ns 4))).setCell ⟨Z27, 5, none⟩ (.int .i64 (rd ns 5))).heap[p]? = some (.cells #[.slice A L.length c, .string nm, .slice Ab B.length cb] 35 (0, 0))) := ⟨bk BKp⟩
   have _ : Aside0 (Below w0.heap.size w0 ((((((Z28.setCell ⟨Z27, 0, none⟩ (.int .i64 (rd ns 0))).setCell ⟨Z27, 1, none⟩ (.int .i64 (rd ns 1))).setCell ⟨Z27, 2, none⟩ (.int .i64 (rd ns 2))).setCell ⟨Z27, 3, none⟩ (.int .i64 (rd ns 3))).setCell ⟨Z27, 4, none⟩ (.int .i64 (rd ns 4))).setCell ⟨Z27, 5, none⟩ (.int .i64 (rd ns 5)))) := ⟨bq⟩
   have _ := ra (Kd.S_mono (Kd.S_far (p := ⟨Z27, 5, none⟩) (Kd.S_far (p := ⟨Z27, 4, none⟩) (Kd.S_far (p := ⟨Z27, 3, none⟩) (Kd.S_far (p := ⟨Z27, 2, none⟩) (Kd.S_far (p := ⟨Z27, 1, none⟩) (Kd.S_far (p := ⟨Z27, 0, none⟩) HT.out (fun _ hk => hk.2) (.int .i64 (rd ns 0))) (fun _ hk => hk.2) (.int .i64 (rd ns 1))) (fun _ hk => hk.2) (.int .i64 (rd ns 2))) (fun _ hk => hk.2) (.int .i64 (rd ns 3))) (fun _ hk => hk.2) (.int .i64 (rd ns 4))) (fun _ hk => hk.2) (.int .i64 (rd ns 5))) (fun _ hk => hk.1))
   have _ := ra (Kd.R_mono (Kd.R_far (p := ⟨Z27, 5, none⟩) (Kd.R_far (p := ⟨Z27, 4, none⟩) (Kd.R_far (p := ⟨Z27, 3, none⟩) (Kd.R_far (p := ⟨Z27, 2, none⟩) (Kd.R_far (p := ⟨Z27, 1, none⟩) (Kd.R_far (p := ⟨Z27, 0, none⟩) HH.out (fun _ hk => hk.2) (.int .i64 (rd ns 0))) (fun _ hk => hk.2) (.int .i64 (rd ns 1))) (fun _ hk => hk.2) (.int .i64 (rd ns 2))) (fun _ hk => hk.2) (.int .i64 (rd ns 3))) (fun _ hk => hk.2) (.int .i64 (rd ns 4))) (fun _ hk => hk.2) (.int .i64 (rd ns 5))) (fun _ hk => hk.1))
   have _ : Aside0 (((((((Z28.setCell ⟨Z27, 0, none⟩ (.int .i64 (rd ns 0))).setCell ⟨Z27, 1, none⟩ (.int .i64 (rd ns 1))).setCell ⟨Z27, 2, none⟩ (.int .i64 (rd ns 2))).setCell ⟨Z27, 3, none⟩ (.int .i64 (rd ns 3))).setCell ⟨Z27, 4, none⟩ (.int .i64 (rd ns 4))).setCell ⟨Z27, 5, none⟩ (.int .i64 (rd ns 5))).heap[Z27]? = some (.cells #[.int .i64 (rd ns 0), .int .i64 (rd ns 1), .int .i64 (rd ns 2), .int .i64 (rd ns 3), .int .i64 (rd ns 4), .int .i64 (rd ns 5)] 46 (0, 0))) := ⟨bp Z29⟩
   clear BKp HB HT HH Z29
   rename_i BKp HB HT HH Z29
   clear Z33 Z34 Z35 Z36 Z37 Z38 Z39 Z40 Z41 Z42 Z43 Z44
   generalize ((((((Z28.setCell ⟨Z27, 0, none⟩ (.int .i64 (rd ns 0))).setCell ⟨Z27, 1, none⟩ (.int .i64 (rd ns 1))).setCell ⟨Z27, 2, none⟩ (.int .i64 (rd ns 2))).setCell ⟨Z27, 3, none⟩ (.int .i64 (rd ns 3))).setCell ⟨Z27, 4, none⟩ (.int .i64 (rd ns 4))).setCell ⟨Z27, 5, none⟩ (.int .i64 (rd ns 5))) = Z45 at BKp HB HT HH Z29 ⊢
   have HC := ra (Kd.S_reads' HT.out).2.2
   have HCB := ra (Kd.R_reads' HH.out).2.2
   obtain ⟨Z46, Z47, Z48, Z49, Z50, Z51⟩ := Sn.zc3 BKp
   obtain ⟨Z33, Z34, Z35, Z36, Z37, Z38, Z39, Z40, Z41, Z42, Z43, Z44⟩ := zc6 Z29
   try go_wp2_with (first | ((with_reducible refine gc 45 rfl ?_); refine gy (some 26) Tryz.func45 (spec_ProbeBoxOk.calls _ _ _ _ _ _ _ _ HF.out) ?_; rintro Z52 hb; replace BKp := bb (bk BKp) hb; replace HB := bs hb; replace HT := Sn.bT HT hb; replace HH := Sn.bH HH hb; replace HC := Sn.bC HC hb; replace HCB := Sn.bC HCB hb; replace Z29 := bb (bk Z29) hb; clear Z46 Z47 Z48 Z49 Z50 Z51 Z33 Z34 Z35 Z36 Z37 Z38 Z39 Z40 Z41 Z42 Z43 Z44; obtain ⟨Z46, Z47, Z48, Z49, Z50, Z51⟩ := Sn.zc3 BKp; clear hb))
   have _ := ra (blk_drew BKp.out); have _ := ra (below_drew1 HB.out); have _ := ra (blk_drew Z29.out); have _ := Sn.drT HT; have _ := Sn.drH HH; have _ := Sn.drC HCB
   clear BKp HB Z29 HT HH HC HCB
   rename_i BKp HB Z29 HT HH HCB
   clear Z46 Z47 Z48 Z49 Z50 Z51
   have Z53 : Z52.drew.cell? ⟨p, 2, none⟩ = some (.slice Ab B.length cb) := (blk_cell BKp.out 2).trans rfl
   have Z54 : Z52.drew.cell? ⟨Z27, 0, none⟩ = some (.int .i64 (rd ns 0)) := (blk_cell Z29.out 0).trans rfl
   have Z55 : Z52.drew.cell? ⟨Z27, 1, none⟩ = some (.int .i64 (rd ns 1)) := (blk_cell Z29.out 1).trans rfl
   have Z56 : Z52.drew.cell? ⟨Z27, 2, none⟩ = some (.int .i64 (rd ns 2)) := (blk_cell Z29.out 2).trans rfl
   have Z57 : Z52.drew.cell? ⟨Z27, 3, none⟩ = some (.int .i64 (rd ns 3)) := (blk_cell Z29.out 3).trans rfl
   have Z58 : Z52.drew.cell? ⟨Z27, 4, none⟩ = some (.int .i64 (rd ns 4)) := (blk_cell Z29.out 4).trans rfl
   have Z59 : Z52.drew.cell? ⟨Z27, 5, none⟩ = some (.int .i64 (rd ns 5)) := (blk_cell Z29.out 5).trans rfl
   refine start_ (n := 15) (S := fun w' => w'.cell? ⟨p, 2, none⟩ = some (.slice Ab B.length cb) ∧ w'.cell? ⟨Z27, 0, none⟩ = some (.int .i64 (rd ns 0)) ∧ w'.cell? ⟨Z27, 1, none⟩ = some (.int .i64 (rd ns 1)) ∧ w'.cell? ⟨Z27, 2, none⟩ = some (.int .i64 (rd ns 2)) ∧ w'.cell? ⟨Z27, 3, none⟩ = some (.int .i64 (rd ns 3)) ∧ w'.cell? ⟨Z27, 4, none⟩ = some (.int .i64 (rd ns 4)) ∧ w'.cell? ⟨Z27, 5, none⟩ = some (.int .i64 (rd ns 5))) (ds := [10, 14]) #[false, false, false, false, false, false, false, false, false, false, false, false, false, false, false] (by kernel_rfl) rfl rfl ⟨Z53, Z54, Z55, Z56, Z57, Z58, Z59⟩ (fun hHeld => ?_)
   generalize Z52.drew = wf at BKp HB Z29 HT HH HCB Z53 Z54 Z55 Z56 Z57 Z58 Z59 hHeld ⊢
   have HBf := ra (Below.refl wf.heap.size wf)
   refine pu 0 37 (bl 15 1) ?_
   refine pu 2 39 (bl 15 5) ?_
   refine pu 3 40 (bl 15 13) ?_
   refine pu 4 41 (bl 15 29) ?_
   refine pu 5 42 (bl 15 61) ?_
   refine tk 6 43 (bl 15 125) ?_ hHeld
   refine tk 8 45 (bl 15 381) ?_ hHeld
   refine join_ (σ := Value × Value × Value) 5 #[true, true, true, true, true, true, true, true, true, true, false, false, false, false, false] (fun s => [(38, s.1), (44, s.2.1), (46, s.2.2)]) (fun s w' => Kd.R k46 46 w' wf.heap.size (fun _ => True) s.2.1 ([] ++ B) ∧ Kd.R k46 46 w' wf.heap.size (fun _ => True) s.2.2 [(⟨(rd ns 0), (rd ns 1), (rd ns 2), (rd ns 3), (rd ns 4), (rd ns 5)⟩ : S46)] ∧ Below wf.heap.size wf w') ?_ ?_
   rotate_left
   ·intro hCont
    refine two_ (i := 1) (j := 9) (Ni := some 38) (Nj := some 46) #[true, true, true, true, true, true, true, false, true, false, false, false, false, false, false] #[true, false, true, true, true, true, true, false, true, true, false, false, false, false, false] rfl rfl rfl rfl (by kernel_rfl) (by decide) (by decide) (fun K hK => ?_) (fun K hK => ?_)
    ·skip
     refine Kd.R_lit_step k46 _ 46 ?hg (N := 38) ?hd (xs := ([] : List S46)) (inner := []) (ok := fun _ => True) (okp := fun _ => True) ?hr ?hp (fun _ hk => hk) trivial (Below.refl _ _) (Nat.le_refl _) (by simp) ?_; (case hd => rfl); (case hg => rfl); (case hr => first | (go_simp; done) | (go_simp; rfl)); (case hp => exact (Reps.none _ _))
     intro Z60 wx ho hb hg_ hnew_
     clear hg_ hnew_
     have HX := ra (Kd.R_lower ho (below_size HBf.out))
     have _ := ra (below_step HBf.out hb)
     clear HBf ho hb
     rename_i HBf
     refine hK.out _ _ ⟨hc HBf Z53, hc HBf Z54, hc HBf Z55, hc HBf Z56, hc HBf Z57, hc HBf Z58, hc HBf Z59⟩ (fun hHeld => ?_)
     clear hK K
     refine Z.nm 38 ?_
     refine two_ (i := 7) (j := 9) (Ni := some 44) (Nj := some 46) #[true, true, true, true, true, true, true, true, true, false, false, false, false, false, false] #[true, true, true, true, true, true, true, false, true, true, false, false, false, false, false] rfl rfl rfl rfl (by kernel_rfl) (by decide) (by decide) (fun K hK => ?_) (fun K hK => ?_)
     ·skip
      refine Kd.R_append_rows_step k46 (w0 := wf) wf.heap.size (by rfl) (.tmp 38) (.tmp 43) 31 46 (.agg #[(.int .i64 0), (.int .i64 0), (.int .i64 0), (.int .i64 0), (.int .i64 0), (.int .i64 0)]) 48 rfl Tryz.underlying31 info46 rfl (by decide) (by omega) Z60 [] B _ _ _ (fun _ => True) (fun _ => False) rfl rfl ?aO ?aR (fun _ _ h => h) (fun _ h => h.elim) ?aF ?aB ?aS ?aL ?_
      (case aR => exact Kd.C_below HCB.out HBf.out)
      (case aB => exact HBf.out)
      (case aF => exact (fun _ _ => trivial))
      (case aO => exact HX.out)
      (case aS => exact (below_size HBf.out))
      (case aL => have := Z19.out; simp only [List.length_nil]; omega)
      intro Z61 wz ho hb hg hat
      clear HX HBf
      have HX := ra ho
      have HBf := ra hb
      clear ho hb hg hat
      refine hK.out _ _ ⟨hc HBf Z53, hc HBf Z54, hc HBf Z55, hc HBf Z56, hc HBf Z57, hc HBf Z58, hc HBf Z59⟩ (fun hHeld => ?_)
      clear hK K
      refine Z.nm 44 ?_
      refine oe 9 46 (bl 15 1023) (fun K hK => ?_)
      refine Kd.R_lit_step k46 _ 46 ?hg (N := 46) ?hd (xs := [(⟨(rd ns 0), (rd ns 1), (rd ns 2), (rd ns 3), (rd ns 4), (rd ns 5)⟩ : S46)]) (inner := [.int .i64 (rd ns 0), .int .i64 (rd ns 1), .int .i64 (rd ns 2), .int .i64 (rd ns 3), .int .i64 (rd ns 4), .int .i64 (rd ns 5)]) (ok := fun _ => True) (okp := fun _ => True) ?hr ?hp (fun _ hk => hk) trivial (Below.refl _ _) (Nat.le_refl _) (by simp) ?_; (case hd => rfl); (case hg => rfl); (case hr => first | (go_simp; done) | (go_simp; rfl)); (case hp => exact Reps.c6 (k46_mkM _ _ _ (⟨(rd ns 0), (rd ns 1), (rd ns 2), (rd ns 3), (rd ns 4), (rd ns 5)⟩ : S46)) (Reps.none _ _))
      intro Z62 wy ho hb hg_ hnew_
      clear hg_ hnew_
      have _ := ra (Kd.R_lower (Kd.R_new' ho (Kd.R_lt HX.out)) (below_size HBf.out))
      have _ := ra (Kd.R_below HX.out hb)
      clear HX
      rename_i HY HX
      have _ := ra (below_step HBf.out hb)
      clear HBf ho hb
      rename_i HBf
      refine hK.out _ _ ⟨hc HBf Z53, hc HBf Z54, hc HBf Z55, hc HBf Z56, hc HBf Z57, hc HBf Z58, hc HBf Z59⟩ (fun hHeld => ?_)
      clear hK K
      refine Z.nm 46 ?_
      exact norm_ (by simp only [putAll, Act.put, List.setIfInBounds_toArray, List.set_cons_zero, List.set_cons_succ]) (hCont (Z60, Z61, Z62) _ ⟨HX.out, Kd.R_mono HY.out (fun _ _ => trivial), HBf.out⟩)
     ·skip
      refine Kd.R_lit_step k46 _ 46 ?hg (N := 46) ?hd (xs := [(⟨(rd ns 0), (rd ns 1), (rd ns 2), (rd ns 3), (rd ns 4), (rd ns 5)⟩ : S46)]) (inner := [.int .i64 (rd ns 0), .int .i64 (rd ns 1), .int .i64 (rd ns 2), .int .i64 (rd ns 3), .int .i64 (rd ns 4), .int .i64 (rd ns 5)]) (ok := fun _ => True) (okp := fun _ => True) ?hr ?hp (fun _ hk => hk) trivial (Below.refl _ _) (Nat.le_refl _) (by simp) ?_; (case hd => rfl); (case hg => rfl); (case hr => first | (go_simp; done) | (go_simp; rfl)); (case hp => exact Reps.c6 (k46_mkM _ _ _ (⟨(rd ns 0), (rd ns 1), (rd ns 2), (rd ns 3), (rd ns 4), (rd ns 5)⟩ : S46)) (Reps.none _ _))
      intro Z61 wy ho hb hg_ hnew_
      clear hg_ hnew_
      have _ := ra (Kd.R_lower (Kd.R_new' ho (Kd.R_lt HX.out)) (below_size HBf.out))
      have _ := ra (Kd.R_below HX.out hb)
      clear HX
      rename_i HY HX
      have _ := ra (below_step HBf.out hb)
      clear HBf ho hb
      rename_i HBf
      refine hK.out _ _ ⟨hc HBf Z53, hc HBf Z54, hc HBf Z55, hc HBf Z56, hc HBf Z57, hc HBf Z58, hc HBf Z59⟩ (fun hHeld => ?_)
      clear hK K
      refine Z.nm 46 ?_
      refine oe 7 44 (bl 15 1023) (fun K hK => ?_)
      refine Kd.R_append_rows_step k46 (w0 := wf) wf.heap.size (by rfl) (.tmp 38) (.tmp 43) 31 46 (.agg #[(.int .i64 0), (.int .i64 0), (.int .i64 0), (.int .i64 0), (.int .i64 0), (.int .i64 0)]) 48 rfl Tryz.underlying31 info46 rfl (by decide) (by omega) Z60 [] B _ _ _ (fun _ => True) (fun _ => False) rfl rfl ?aO ?aR (fun _ _ h => h) (fun _ h => h.elim) ?aF ?aB ?aS ?aL ?_
      (case aR => exact Kd.C_below HCB.out HBf.out)
      (case aB => exact HBf.out)
      (case aF => exact (fun _ _ => trivial))
      (case aO => exact HX.out)
      (case aS => exact (below_size HBf.out))
      (case aL => have := Z19.out; simp only [List.length_nil]; omega)
      intro Z62 wz ho hb hg hat
      have _ := ra (Kd.R_grown HY.out hg (fun _ hk => hk.2))
      clear HY
      rename_i HY
      clear HX HBf
      have HX := ra ho
      have HBf := ra hb
      clear ho hb hg hat
      refine hK.out _ _ ⟨hc HBf Z53, hc HBf Z54, hc HBf Z55, hc HBf Z56, hc HBf Z57, hc HBf Z58, hc HBf Z59⟩ (fun hHeld => ?_)
      clear hK K
      refine Z.nm 44 ?_
      exact norm_ (by simp only [putAll, Act.put, List.setIfInBounds_toArray, List.set_cons_zero, List.set_cons_succ]) (hCont (Z60, Z62, Z61) _ ⟨HX.out, Kd.R_mono HY.out (fun _ _ => trivial), HBf.out⟩)
    ·skip
     refine Kd.R_lit_step k46 _ 46 ?hg (N := 46) ?hd (xs := [(⟨(rd ns 0), (rd ns 1), (rd ns 2), (rd ns 3), (rd ns 4), (rd ns 5)⟩ : S46)]) (inner := [.int .i64 (rd ns 0), .int .i64 (rd ns 1), .int .i64 (rd ns 2), .int .i64 (rd ns 3), .int .i64 (rd ns 4), .int .i64 (rd ns 5)]) (ok := fun _ => True) (okp := fun _ => True) ?hr ?hp (fun _ hk => hk) trivial (Below.refl _ _) (Nat.le_refl _) (by simp) ?_; (case hd => rfl); (case hg => rfl); (case hr => first | (go_simp; done) | (go_simp; rfl)); (case hp => exact Reps.c6 (k46_mkM _ _ _ (⟨(rd ns 0), (rd ns 1), (rd ns 2), (rd ns 3), (rd ns 4), (rd ns 5)⟩ : S46)) (Reps.none _ _))
     intro Z60 wy ho hb hg_ hnew_
     clear hg_ hnew_
     have HY := ra (Kd.R_lower ho (below_size HBf.out))
     have _ := ra (below_step HBf.out hb)
     clear HBf ho hb
     rename_i HBf
     refine hK.out _ _ ⟨hc HBf Z53, hc HBf Z54, hc HBf Z55, hc HBf Z56, hc HBf Z57, hc HBf Z58, hc HBf Z59⟩ (fun hHeld => ?_)
     clear hK K
     refine Z.nm 46 ?_
     refine oe 1 38 (bl 15 895) (fun K hK => ?_)
     refine Kd.R_lit_step k46 _ 46 ?hg (N := 38) ?hd (xs := ([] : List S46)) (inner := []) (ok := fun _ => True) (okp := fun _ => True) ?hr ?hp (fun _ hk => hk) trivial (Below.refl _ _) (Nat.le_refl _) (by simp) ?_; (case hd => rfl); (case hg => rfl); (case hr => first | (go_simp; done) | (go_simp; rfl)); (case hp => exact (Reps.none _ _))
     intro Z61 wx ho hb hg_ hnew_
     clear hg_ hnew_
     have _ := ra (Kd.R_elder' HY.out (Kd.R_base ho) hb)
     clear HY
     rename_i HY
     have HX := ra (Kd.R_lower ho (below_size HBf.out))
     have _ := ra (below_step HBf.out hb)
     clear HBf ho hb
     rename_i HBf
     refine hK.out _ _ ⟨hc HBf Z53, hc HBf Z54, hc HBf Z55, hc HBf Z56, hc HBf Z57, hc HBf Z58, hc HBf Z59⟩ (fun hHeld => ?_)
     clear hK K
     refine Z.nm 38 ?_
     refine oe 7 44 (bl 15 1023) (fun K hK => ?_)
     refine Kd.R_append_rows_step k46 (w0 := wf) wf.heap.size (by rfl) (.tmp 38) (.tmp 43) 31 46 (.agg #[(.int .i64 0), (.int .i64 0), (.int .i64 0), (.int .i64 0), (.int .i64 0), (.int .i64 0)]) 48 rfl Tryz.underlying31 info46 rfl (by decide) (by omega) Z61 [] B _ _ _ (fun _ => True) (fun _ => False) rfl rfl ?aO ?aR (fun _ _ h => h) (fun _ h => h.elim) ?aF ?aB ?aS ?aL ?_
     (case aR => exact Kd.C_below HCB.out HBf.out)
     (case aB => exact HBf.out)
     (case aF => exact (fun _ _ => trivial))
     (case aO => exact HX.out)
     (case aS => exact (below_size HBf.out))
     (case aL => have := Z19.out; simp only [List.length_nil]; omega)
     intro Z62 wz ho hb hg hat
     have _ := ra (Kd.R_grown HY.out hg (fun _ hk => hk.2))
     clear HY
     rename_i HY
     clear HX HBf
     have HX := ra ho
     have HBf := ra hb
     clear ho hb hg hat
     refine hK.out _ _ ⟨hc HBf Z53, hc HBf Z54, hc HBf Z55, hc HBf Z56, hc HBf Z57, hc HBf Z58, hc HBf Z59⟩ (fun hHeld => ?_)
     clear hK K
     refine Z.nm 44 ?_
     exact norm_ (by simp only [putAll, Act.put, List.setIfInBounds_toArray, List.set_cons_zero, List.set_cons_succ]) (hCont (Z61, Z62, Z60) _ ⟨HX.out, Kd.R_mono HY.out (fun _ _ => trivial), HBf.out⟩)
   rintro ⟨Z60, Z61, Z62⟩ wg ⟨hX, hY, hb⟩
   clear HBf
   have HX := ra hX
   have HY := ra hY
   have HBf := ra hb
   clear hX hY hb
   obtain ⟨Ay, cy, ey⟩ := Kd.R_slice HY.out
   obtain rfl : Z62 = _ := ey
   have hHeld : (wg.cell? ⟨p, 2, none⟩ = some (.slice Ab B.length cb) ∧ wg.cell? ⟨Z27, 0, none⟩ = some (.int .i64 (rd ns 0)) ∧ wg.cell? ⟨Z27, 1, none⟩ = some (.int .i64 (rd ns 1)) ∧ wg.cell? ⟨Z27, 2, none⟩ = some (.int .i64 (rd ns 2)) ∧ wg.cell? ⟨Z27, 3, none⟩ = some (.int .i64 (rd ns 3)) ∧ wg.cell? ⟨Z27, 4, none⟩ = some (.int .i64 (rd ns 4)) ∧ wg.cell? ⟨Z27, 5, none⟩ = some (.int .i64 (rd ns 5))) := ⟨hc HBf Z53, hc HBf Z54, hc HBf Z55, hc HBf Z56, hc HBf Z57, hc HBf Z58, hc HBf Z59⟩
   refine norm_ (a' := ?_) ?_ ?_
   rotate_left
   ·simp only [putAll, Act.put, List.setIfInBounds_toArray, List.set_cons_zero, List.set_cons_succ]
    rfl
   refine last_ (i := 10) (N := some 47) #[true, true, true, true, true, true, true, true, true, true, true, false, false, false, false] rfl rfl (by kernel_rfl) (by decide) (fun K hK => ?_)
   refine Kd.R_append_rows_step k46 (w0 := wf) wf.heap.size (by rfl) (.tmp 44) (.tmp 46) 31 46 (.agg #[(.int .i64 0), (.int .i64 0), (.int .i64 0), (.int .i64 0), (.int .i64 0), (.int .i64 0)]) 48 rfl Tryz.underlying31 info46 rfl (by decide) (by omega) Z61 ([] ++ B) [(⟨(rd ns 0), (rd ns 1), (rd ns 2), (rd ns 3), (rd ns 4), (rd ns 5)⟩ : S46)] _ _ _ (fun _ => True) (fun _ => False) rfl rfl ?aO ?aR (fun _ _ h => h) (fun _ h => h.elim) ?aF ?aB ?aS ?aL ?_
   (case aR => exact (Kd.R_reads' HY.out).2.2)
   (case aB => exact HBf.out)
   (case aF => exact (fun _ _ => trivial))
   (case aO => exact HX.out)
   (case aS => exact (below_size HBf.out))
   (case aL => have := Z19.out; simp only [List.nil_append, List.length_cons, List.length_nil]; omega)
   intro Z63 wh ho hb hg hat
   obtain ⟨BB, hBB⟩ : ∃ BB : List S46, BB = B ++ [(⟨(rd ns 0), (rd ns 1), (rd ns 2), (rd ns 3), (rd ns 4), (rd ns 5)⟩ : S46)] := ⟨_, rfl⟩
   rw [List.nil_append, ← hBB] at ho
   have HBB := ra hBB
   clear hBB
   have _ := bb (bk BKp) hb
   have _ := ra (Kd.S_mono (Kd.S_elder' HT.out (Kd.R_base ho) hb) (fun _ hk => hk.2))
   have _ := ra (Kd.R_lower ho (below_size HB.out))
   have _ := ra (below_step HB.out hb)
   clear BKp HT HH HB HX HY HBf Z29
   rename_i BKp HT HH HB
   clear ho hb hg hat
   obtain ⟨Ao, co, eo⟩ := Kd.R_slice HH.out
   subst eo
   refine hK.out _ _ ?_
   clear hK K
   refine Z.nm 47 ?_
   refine pu 11 48 (bl 15 4095) ?_
   refine pu 12 49 (bl 15 8191) ?_
   refine pu 13 50 (bl 15 16383) ?_
   refine last_ (i := 14) (N := none) #[true, true, true, true, true, true, true, true, true, true, true, true, true, true, true] rfl rfl (by kernel_rfl) (by decide) (fun K hK => ?_)
   obtain ⟨Z46, Z47, Z48, Z49, Z50, Z51⟩ := Sn.zc3 BKp
   refine skip_ (w1 := ?_) (by rfl) rfl ?_ ?_
   rotate_left
   ·go_simp
    rfl
   refine hK.out _ _ ?_
   clear hK K
   refine done_ (by kernel_rfl) ?_
   try go_wp2
   go_ret
   rw [← HBB.out]
   exact ⟨re, ⟨.slice A L.length c, .slice Ao BB.length co, bp BKp, Sn.setT HT.out BKp.out (by decide), Sn.setH HH.out BKp.out (by decide), GEp.out⟩, bq⟩
  ·rw [if_neg (fun hh => Z1 hh.2)] at h
   obtain ⟨rfl, rfl⟩ := Prod.mk.inj (Option.some.inj h)
   clear h
   dsimp only
   have Z2 : 40 ≤ B.length := Nat.le_of_not_lt Z1
   clear Z1
   have Z3 := Tryz.underlying35; have Z4 := Tryz.underlying33; have Z5 := Tryz.underlying46
   have Z6 := ki 0 (ns.length : Int); have Z7 := kn 0 ns.length
   have Z8 := ki 1 (ns.length : Int); have Z9 := kn 1 ns.length
   have Z10 := ki 2 (ns.length : Int); have Z11 := kn 2 ns.length
   have Z12 := ki 3 (ns.length : Int); have Z13 := kn 3 ns.length
   have Z14 := ki 4 (ns.length : Int); have Z15 := kn 4 ns.length
   have Z16 := ki 5 (ns.length : Int); have Z17 := kn 5 ns.length
   have Z18 : decide ((40 : Int) ≤ (B.length : Int)) = true := decide_eq_true (by omega); have Z19 := ra Z2; clear Z2
   have Z20 := ra Z0; clear Z0
   go_enter Tryz.func19, Tryz.ntmps19
   try go_wp2
   have HNI := Sn.drC HNI; have _ := ra (blk_drew BKp.out); have _ := ra (below_drew1 HB.out); have _ := Sn.drT HT; have _ := Sn.drH HH; have _ := Sn.drC HC; have _ := Sn.drC HCB
   clear BKp HB HT HH HC HCB
   rename_i BKp HB HT HH HC HCB
   obtain ⟨adn, en, Z21⟩ := Kd.at_int HNI.out 0 (Int.le_refl _) (by have := Z20.out; omega); cases en; replace Z21 := Sn.s0 Z21
   obtain ⟨_, en, Z22⟩ := Kd.at_int HNI.out 1 (by omega) (by have := Z20.out; omega); cases en; replace Z22 := Sn.s1 (i := 0) Z22
   obtain ⟨_, en, Z23⟩ := Kd.at_int HNI.out 2 (by omega) (by have := Z20.out; omega); cases en; replace Z23 := Sn.s1 (i := 1) Z23
   obtain ⟨_, en, Z24⟩ := Kd.at_int HNI.out 3 (by omega) (by have := Z20.out; omega); cases en; replace Z24 := Sn.s1 (i := 2) Z24
   obtain ⟨_, en, Z25⟩ := Kd.at_int HNI.out 4 (by omega) (by have := Z20.out; omega); cases en; replace Z25 := Sn.s1 (i := 3) Z25
   obtain ⟨_, en, Z26⟩ := Kd.at_int HNI.out 5 (by omega) (by have := Z20.out; omega); cases en; replace Z26 := Sn.s1 (i := 4) Z26
   refine start_ (n := 21) (S := fun w' => w'.cell? adn = some (.int .i64 (rd ns 0)) ∧ w'.cell? ⟨adn.block, adn.off + 1, none⟩ = some (.int .i64 (rd ns 1)) ∧ w'.cell? ⟨adn.block, adn.off + 2, none⟩ = some (.int .i64 (rd ns 2)) ∧ w'.cell? ⟨adn.block, adn.off + 3, none⟩ = some (.int .i64 (rd ns 3)) ∧ w'.cell? ⟨adn.block, adn.off + 4, none⟩ = some (.int .i64 (rd ns 4)) ∧ w'.cell? ⟨adn.block, adn.off + 5, none⟩ = some (.int .i64 (rd ns 5))) (ds := [20]) #[false, false, false, false, false, false, false, false, false, false, false, false, false, false, false, false, false, false, false, false, false] (by kernel_rfl) rfl rfl ⟨Z21, Z22, Z23, Z24, Z25, Z26⟩ (fun hHeld => ?_)
   generalize w.drew = wd at BKp HB HT HH HC HCB HNI Z21 Z22 Z23 Z24 Z25 Z26 hHeld ⊢
   refine pu 0 6 (bl 21 1) ?_
   refine pu 1 7 (bl 21 3) ?_
   refine pu 3 9 (bl 21 11) ?_
   refine pu 4 10 (bl 21 27) ?_
   refine pu 6 12 (bl 21 91) ?_
   refine pu 7 13 (bl 21 219) ?_
   refine pu 9 15 (bl 21 731) ?_
   refine pu 10 16 (bl 21 1755) ?_
   refine pu 12 18 (bl 21 5851) ?_
   refine pu 13 19 (bl 21 14043) ?_
   refine pu 15 21 (bl 21 46811) ?_
   refine pu 16 22 (bl 21 112347) ?_
   refine tk 2 8 (bl 21 112351) ?_ hHeld
   refine tk 5 11 (bl 21 112383) ?_ hHeld
   refine tk 8 14 (bl 21 112639) ?_ hHeld
   refine tk 11 17 (bl 21 114687) ?_ hHeld
   refine tk 14 20 (bl 21 131071) ?_ hHeld
   refine tk 17 23 (bl 21 262143) ?_ hHeld
   refine pu 18 24 (bl 21 524287) ?_
   refine oe 19 5 (bl 21 1048575) (fun K hK => ?_)
   refine box_step ?hg (N := 5) ?hd (cs := #[.int .i64 0, .int .i64 0, .int .i64 0, .int .i64 0, .int .i64 0, .int .i64 0]) (t := 46) ?hr ?_; (case hd => rfl); (case hg => rfl); (case hr => first | (go_simp; done) | (go_simp; rfl))
   intro Z27 hg Z28 hbox hb
   have HBD := ra hb
   have _ := bb (bk BKp) hb
   have _ := bs hb
   have _ := ra (Kd.S_below (Kd.S_elderB (Sn.qS HT) Z27 (Nat.le_of_eq hg.symm)) hb)
   have _ := ra (Kd.R_below (Kd.R_elderB (Sn.qR HH) Z27 (Nat.le_of_eq hg.symm)) hb)
   have _ := ra hbox
   have _ := bz (w0 := w0) hg
   have _ := bn hg (bk BKp)
   have _ := bm hg (bk BKp)
   clear BKp HB HT HH HC HCB
   rename_i BKp HB HT HH Z29 Z30 Z31 Z32
   clear hb hbox hg
   have hnb := Z31.out
   have hnc := Z32.out
   obtain ⟨Z33, Z34, Z35, Z36, Z37, Z38, Z39, Z40, Z41, Z42, Z43, Z44⟩ := zc6 Z29
   refine hK.out _ _ ⟨hc HBD Z21, hc HBD Z22, hc HBD Z23, hc HBD Z24, hc HBD Z25, hc HBD Z26⟩ (fun hHeld => ?_)
   clear hK K
   refine Z.nm 5 ?_
   refine last_ (i := 20) (N := none) #[true, true, true, true, true, true, true, true, true, true, true, true, true, true, true, true, true, true, true, true, true] rfl rfl (by kernel_rfl) (by decide) (fun K hK => ?_)
   refine skip_ (w1 := ?_) (by rfl) rfl ?_ ?_
   rotate_left
   ·go_simp
    rfl
   refine hK.out _ _ ?_
   clear hK K
   refine done_ (by kernel_rfl) ?_
   have _ : Aside0 (((((((Z28.setCell ⟨Z27, 0, none⟩ (.int .i64 (rd ns 0))).setCell ⟨Z27, 1, none⟩ (.int .i64 (rd ns 1))).setCell ⟨Z27, 2, none⟩ (.int .i64 (rd ns 2))).setCell ⟨Z27, 3, none⟩ (.int .i64 (rd ns 3))).setCell ⟨Z27, 4, none⟩ (.int .i64 (rd ns 4))).setCell ⟨Z27, 5, none⟩ (.int .i64 (rd ns 5))).heap[p]? = some (.cells #[.slice A L.length c, .string nm, .slice Ab B.length cb] 35 (0, 0))) := ⟨bk BKp⟩
   have _ : Aside0 (Below w0.heap.size w0 ((((((Z28.setCell ⟨Z27, 0, none⟩ (.int .i64 (rd ns 0))).setCell ⟨Z27, 1, none⟩ (.int .i64 (rd ns 1))).setCell ⟨Z27, 2, none⟩ (.int .i64 (rd ns 2))).setCell ⟨Z27, 3, none⟩ (.int .i64 (rd ns 3))).setCell ⟨Z27, 4, none⟩ (.int .i64 (rd ns 4))).setCell ⟨Z27, 5, none⟩ (.int .i64 (rd ns 5)))) := ⟨bq⟩
   have _ := ra (Kd.S_mono (Kd.S_far (p := ⟨Z27, 5, none⟩) (Kd.S_far (p := ⟨Z27, 4, none⟩) (Kd.S_far (p := ⟨Z27, 3, none⟩) (Kd.S_far (p := ⟨Z27, 2, none⟩) (Kd.S_far (p := ⟨Z27, 1, none⟩) (Kd.S_far (p := ⟨Z27, 0, none⟩) HT.out (fun _ hk => hk.2) (.int .i64 (rd ns 0))) (fun _ hk => hk.2) (.int .i64 (rd ns 1))) (fun _ hk => hk.2) (.int .i64 (rd ns 2))) (fun _ hk => hk.2) (.int .i64 (rd ns 3))) (fun _ hk => hk.2) (.int .i64 (rd ns 4))) (fun _ hk => hk.2) (.int .i64 (rd ns 5))) (fun _ hk => hk.1))
   have _ := ra (Kd.R_mono (Kd.R_far (p := ⟨Z27, 5, none⟩) (Kd.R_far (p := ⟨Z27, 4, none⟩) (Kd.R_far (p := ⟨Z27, 3, none⟩) (Kd.R_far (p := ⟨Z27, 2, none⟩) (Kd.R_far (p := ⟨Z27, 1, none⟩) (Kd.R_far (p := ⟨Z27, 0, none⟩) HH.out (fun _ hk => hk.2) (.int .i64 (rd ns 0))) (fun _ hk => hk.2) (.int .i64 (rd ns 1))) (fun _ hk => hk.2) (.int .i64 (rd ns 2))) (fun _ hk => hk.2) (.int .i64 (rd ns 3))) (fun _ hk => hk.2) (.int .i64 (rd ns 4))) (fun _ hk => hk.2) (.int .i64 (rd ns 5))) (fun _ hk => hk.1))
   have _ : Aside0 (((((((Z28.setCell ⟨Z27, 0, none⟩ (.int .i64 (rd ns 0))).setCell ⟨Z27, 1, none⟩ (.int .i64 (rd ns 1))).setCell ⟨Z27, 2, none⟩ (.int .i64 (rd ns 2))).setCell ⟨Z27, 3, none⟩ (.int .i64 (rd ns 3))).setCell ⟨Z27, 4, none⟩ (.int .i64 (rd ns 4))).setCell ⟨Z27, 5, none⟩ (.int .i64 (rd ns 5))).heap[Z27]? = some (.cells #[.int .i64 (rd ns 0), .int .i64 (rd ns 1), .int .i64 (rd ns 2), .int .i64 (rd ns 3), .int .i64 (rd ns 4), .int .i64 (rd ns 5)] 46 (0, 0))) := ⟨bp Z29⟩
   clear BKp HB HT HH Z29
   rename_i BKp HB HT HH Z29
   clear Z33 Z34 Z35 Z36 Z37 Z38 Z39 Z40 Z41 Z42 Z43 Z44
   generalize ((((((Z28.setCell ⟨Z27, 0, none⟩ (.int .i64 (rd ns 0))).setCell ⟨Z27, 1, none⟩ (.int .i64 (rd ns 1))).setCell ⟨Z27, 2, none⟩ (.int .i64 (rd ns 2))).setCell ⟨Z27, 3, none⟩ (.int .i64 (rd ns 3))).setCell ⟨Z27, 4, none⟩ (.int .i64 (rd ns 4))).setCell ⟨Z27, 5, none⟩ (.int .i64 (rd ns 5))) = Z45 at BKp HB HT HH Z29 ⊢
   have HC := ra (Kd.S_reads' HT.out).2.2
   have HCB := ra (Kd.R_reads' HH.out).2.2
   obtain ⟨Z46, Z47, Z48, Z49, Z50, Z51⟩ := Sn.zc3 BKp
   obtain ⟨Z33, Z34, Z35, Z36, Z37, Z38, Z39, Z40, Z41, Z42, Z43, Z44⟩ := zc6 Z29
   go_wp2_with (first | ((with_reducible refine gc 45 rfl ?_); refine gy (some 26) Tryz.func45 (spec_ProbeBoxOk.calls _ _ _ _ _ _ _ _ HF.out) ?_; rintro Z52 hb; replace BKp := bb (bk BKp) hb; replace HB := bs hb; replace HT := Sn.bT HT hb; replace HH := Sn.bH HH hb; replace HC := Sn.bC HC hb; replace HCB := Sn.bC HCB hb; replace Z29 := bb (bk Z29) hb; clear Z46 Z47 Z48 Z49 Z50 Z51 Z33 Z34 Z35 Z36 Z37 Z38 Z39 Z40 Z41 Z42 Z43 Z44; obtain ⟨Z46, Z47, Z48, Z49, Z50, Z51⟩ := Sn.zc3 BKp; clear hb))
   go_ret
   exact ⟨re, ⟨_, _, bk BKp, Sn.qS HT, Sn.qR HH, GEp.out⟩, bq⟩
theorem Sn.sl_box (k p : Nat) (L : List S33) (nm : ByteArray) (B : List S46) (Aw : Option Addr) (cw : Nat) (ws : List ByteArray) (a6 a1 : List Int) (o1 : Bool) (w0 w : World) (hB : Below w0.heap.size w0 w) (hWG : Lb.WG w0) (hS : St 35 w w0.heap.size p L nm B) (hrw : Kd.C Kd.string w Aw ws.length ws) (hcw : ws.length ≤ cw) (h0 : 0 < ws.length) (h6 : spec_l7Numbers.f k (ws.drop 1) 6 = some (a6, true)) (h1 : spec_l7Numbers.f k (ws.drop 1) 1 = some (a1, o1)) (hW : (rdOf ByteArray.empty ws 0).toList = [98, 111, 120]) (r : ByteArray) (st' : Sx) (hhp : spec_s_box.f (L, nm, B) a6 = some (r, st')) :
  Calls Tryz.prog 9 #[.pointer (some ⟨p, 0, none⟩), .slice Aw ws.length cw] w fun e w' => e = .returned (.string r) ∧ St 35 w' w0.heap.size p st'.1 st'.2.1 st'.2.2 ∧ Below w0.heap.size w0 w' := by
 obtain ⟨vT, vB, hBK, hT, hH, hp⟩ := hS
 obtain ⟨A, c, rfl, hlc, hC⟩ := Kd.S_reads hT
 obtain ⟨Ab, cb, rfl, hlb, hCb⟩ := Kd.R_reads hH
 have BKp := ra hBK; have HT := ra hT; have HH := ra hH; have HC := ra hC; have HCB := ra hCb; have HLC := ra hlc; have HLB := ra hlb; have HB := ra hB; have HWG := ra hWG; have GEp := ra hp; have HW := ra hrw; have HLW := ra hcw; have Z0 := ra h6; have Z1 := ra h1; have H0 := ra h0
 obtain ⟨Z2, Z3, _, hsz_, _⟩ := info_parts info9
 have hcut := cut_from (P := Tryz.prog) 27 9 .i64 Tryz.underlying27 Z3 1 hsz_ Aw ws.length cw 1 (by omega) (by omega)
 have htl := Kd.C_drop (m := (1 : Int).toNat) (c := cw) hrw (by have e_ : (1 : Int).toNat = 1 := rfl; omega) hcw
 obtain ⟨Z4, Z5⟩ : ∃ Z4, Z4 = (if cw = (1 : Int).toNat then Aw else (Aw : Option Addr).map (·.add ((1 : Int).toNat * 1))) := ⟨_, rfl⟩
 obtain ⟨Z6, Z7⟩ : ∃ Z6, Z6 = cw - (1 : Int).toNat := ⟨_, rfl⟩
 obtain ⟨tl, htl_⟩ : ∃ tl, tl = ws.drop 1 := ⟨_, rfl⟩
 have hy : tl.length = ws.length - (1 : Int).toNat := by rw [htl_, List.length_drop]; rfl
 replace htl : Kd.C Kd.string w Z4 tl.length tl := by rw [Z5, htl_]; exact htl
 rw [← hy, ← Z5, ← Z7] at hcut
 rw [← htl_] at Z0 Z1
 have HTL := ra htl
 have HTC := ra (show tl.length ≤ Z6 from by rw [hy, Z7]; exact Nat.sub_le_sub_right hcw _)
 clear hBK hT hH hC hCb hlc hlb hB hWG hp h6 h1 htl hy Z5 Z7 htl_
 obtain ⟨fw_tube, fw_box, fw_put, fw_drop, fw_all, fw_with, fw_meet, fw_cut, fw_free⟩ := fs_box hW
 have Z8 := ki 0 (ws.length : Int)
 have Z9 : (0 < ws.length) = True := eq_true h0
 obtain ⟨adw, ew, Z10⟩ := Kd.at_string hrw 0 (Int.le_refl _) (by omega); cases ew; replace Z10 := Sn.s0 Z10
 have HHP := ra hhp; clear hhp
 clear hrw hcw hW
 have Z11 := Tryz.underlying35; have Z12 := Tryz.underlying55; have Z13 := Tryz.underlying33
 go_enter Tryz.func9, Tryz.ntmps9
 go_wp2_with (first | ((with_reducible refine gc 18 rfl ?_); refine gm (some 12) Tryz.func18 (spec_l7Numbers.calls _ _ _ _ _ _ _ _ HTL.out HTC.out Z0.out) ?_; rintro e Z14 ⟨Z15, rfl, Z16, hb⟩; obtain ⟨An, cn, rfl, hln, hCn⟩ := Kd.R_reads Z16; refine ⟨_, rfl, ?_⟩; have HNI := ra hCn; have HLN := ra hln; replace HTL := ra (Kd.C_below HTL.out hb); replace BKp := bb (bk BKp) hb; replace HB := bs hb; replace HT := Sn.bT HT hb; replace HH := Sn.bH HH hb; replace HC := Sn.bC HC hb; replace HCB := Sn.bC HCB hb; replace Z10 := Sn.cb hb Z10; clear hb Z16 hCn hln) | ((with_reducible refine gc 18 rfl ?_); refine gm (some 18) Tryz.func18 (spec_l7Numbers.calls _ _ _ _ _ _ _ _ HTL.out HTC.out Z1.out) ?_; rintro e Z17 ⟨Z15, rfl, Z16, hb⟩; obtain ⟨Am, cm, rfl, hlm, hCm⟩ := Kd.R_reads Z16; refine ⟨_, rfl, ?_⟩; have HMI := ra hCm; have HLM := ra hlm; replace HNI := ra (Kd.C_below HNI.out hb); replace BKp := bb (bk BKp) hb; replace HB := bs hb; replace HT := Sn.bT HT hb; replace HH := Sn.bH HH hb; replace HC := Sn.bC HC hb; replace HCB := Sn.bC HCB hb; replace Z10 := Sn.cb hb Z10; clear hb Z16 hCm hlm HTL; obtain ⟨Z18, Z19, Z20, Z21, Z22, Z23⟩ := Sn.zc3 BKp) | ((with_reducible refine gc 19 rfl ?_); refine gy (some 48) Tryz.func19 (spec_s_box.calls _ _ _ _ _ _ _ _ _ _ _ bq (Sn.mk (bk BKp) (Sn.qS HT) (Sn.qR HH) GEp.out) (Sn.qC HNI) HLN.out HHP.out) ?_; rintro Z24 ⟨hst, hb⟩; have HST := ra hst; have _ := ra hb; clear BKp HB HT HH HC HCB Z18 Z19 Z20 Z21 Z22 Z23; rename_i HB; clear hst hb))
 go_ret
 exact ⟨re, HST.out, bq⟩
end Go.Proofs.YtjelgpmhbaiipaaGreatDoor.PA
end
