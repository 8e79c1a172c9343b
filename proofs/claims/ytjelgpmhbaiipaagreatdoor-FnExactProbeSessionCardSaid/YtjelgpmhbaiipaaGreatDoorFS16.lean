/- Walks of the session's methods. No condition beside what the Lean functions say. -/
import Derived.Test.YtjelgpmhbaiipaaGreatDoorFZCv2
import Derived.Test.YtjelgpmhbaiipaaGreatDoorFS14
import Derived.Test.YtjelgpmhbaiipaaGreatDoorFG15
import Derived.Test.YtjelgpmhbaiipaaGreatDoorFG11
section
namespace Go.Proofs.YtjelgpmhbaiipaaGreatDoor.PA
open Go.RowKit Go.Proofs.YtjelgpmhbaiipaaGreatDoorW.PrintWords Go.Proofs.YtjelgpmhbaiipaaGreatDoorW.PrintLast Go.Proofs.YtjelgpmhbaiipaaGreatDoorW.PrintMore Go.Proofs.YtjelgpmhbaiipaaGreatDoor.Z
attribute [local go_sem] max2_int min2_int max_two min_two max_three min_three max_four min_four
set_option linter.unusedVariables false
set_option maxHeartbeats 8000000
set_option maxRecDepth 100000
set_option linter.unusedSimpArgs false
theorem Sn.sl_all (k p : Nat) (L : List S33) (nm : ByteArray) (B : List S46) (Aw : Option Addr) (cw : Nat) (ws : List ByteArray) (a6 a1 : List Int) (o6 o1 : Bool) (w0 w : World) (hB : Below w0.heap.size w0 w) (hWG : Lb.WG w0) (hS : St 35 w w0.heap.size p L nm B) (hrw : Kd.C Kd.string w Aw ws.length ws) (hcw : ws.length ≤ cw) (h0 : 0 < ws.length) (h6 : spec_l7Numbers.f k (ws.drop 1) 6 = some (a6, o6)) (h1 : spec_l7Numbers.f k (ws.drop 1) 1 = some (a1, o1)) (hW : (rdOf ByteArray.empty ws 0).toList = [97, 108, 108]) (hlen : ws.length = 1) (cl : List S70) (hal : spec_ProbeAll.f k L = some cl) (r : ByteArray) (hcl : spec_l7Clashes.f k cl = some r) :
  Calls Tryz.prog 9 #[.pointer (some ⟨p, 0, none⟩), .slice Aw ws.length cw] w fun e w' => e = .returned (.string r) ∧ St 35 w' w0.heap.size p L nm B ∧ Below w0.heap.size w0 w' := by
 obtain ⟨vT, vB, hBK, hT, hH, hp⟩ := hS
 obtain ⟨A, c, rfl, hlc, hC⟩ := Kd.S_reads hT
 obtain ⟨Ab, cb, rfl, hlb, hCb⟩ := Kd.R_reads hH
 have BKp := ra hBK; have HT := ra hT; have HH := ra hH; have HC := ra hC; have HCB := ra hCb; have HLC := ra hlc; have HLB := ra hlb; have HB := ra hB; have HWG := ra hWG; have GEp := ra hp; have HW := ra hrw; have HLW := ra hcw; have Z0 := ra h6; have Z1 := ra h1; have H0 := ra h0
 obtain ⟨Z2, Z3, _, hsz_, _⟩ := info_parts info9
 have hcut := cut_from (P := Tryz.prog) 27 9 .i64 Tryz.underlying27 Z3 1 hsz_ Aw ws.length cw 1 (by omega) (by omega)
 have htl := Kd.C_drop (m := (1 : Int).toNat) (c := cw) hrw (by have e_ : (1 : Int).toNat = 1 := rfl; omega) hcw
 obtain ⟨Z4, Z5⟩ : ∃ Z4, Z4 = (if cw = (1 : Int).toNat then Aw else (Aw : Option Addr).map (·.add ((1 : Int).toNat * 1))) := ⟨_, rfl⟩
 obtain ⟨Z6, Z7⟩ : ∃ Z6, Z6 = cw - (1 : Int).toNat := ⟨_, rfl⟩
 obtain ⟨tl, htl_⟩ : ∃ tl, tl = ws.drop 1 := ⟨_, rfl⟩
 have hy : tl.length = ws.length - (1 : Int).toNat := by rw [htl_, List.length_drop]; rfl
 replace htl : Kd.C Kd.string w Z4 tl.length tl := by rw [Z5, htl_]; exact htl
 rw [← hy, ← Z5, ← Z7] at hcut
 rw [← htl_] at Z0 Z1
 have HTL := ra htl
 have HTC := ra (show tl.length ≤ Z6 from by rw [hy, Z7]; exact Nat.sub_le_sub_right hcw _)
 clear hBK hT hH hC hCb hlc hlb hB hWG hp h6 h1 htl hy Z5 Z7 htl_
 obtain ⟨fw_tube, fw_box, fw_put, fw_drop, fw_all, fw_with, fw_meet, fw_cut, fw_free⟩ := fs_all hW
 have fn : ((ws.length : Int) == 1) = true := beq_iff_eq.mpr (by omega)
 have Z8 := ki 0 (ws.length : Int)
 have Z9 : (0 < ws.length) = True := eq_true h0
 obtain ⟨adw, ew, Z10⟩ := Kd.at_string hrw 0 (Int.le_refl _) (by omega); cases ew; replace Z10 := Sn.s0 Z10
 have HAL := ra hal; have HCL := ra hcl; clear hal hcl
 clear hrw hcw hW hlen
 have Z11 := Tryz.underlying35; have Z12 := Tryz.underlying55; have Z13 := Tryz.underlying33
 go_enter Tryz.func9, Tryz.ntmps9
 go_wp2_with (first | ((with_reducible refine gc 18 rfl ?_); refine gm (some 12) Tryz.func18 (spec_l7Numbers.calls _ _ _ _ _ _ _ _ HTL.out HTC.out Z0.out) ?_; rintro e Z14 ⟨Z15, rfl, Z16, hb⟩; obtain ⟨An, cn, rfl, hln, hCn⟩ := Kd.R_reads Z16; refine ⟨_, rfl, ?_⟩; have HNI := ra hCn; have HLN := ra hln; replace HTL := ra (Kd.C_below HTL.out hb); replace BKp := bb (bk BKp) hb; replace HB := bs hb; replace HT := Sn.bT HT hb; replace HH := Sn.bH HH hb; replace HC := Sn.bC HC hb; replace HCB := Sn.bC HCB hb; replace Z10 := Sn.cb hb Z10; clear hb Z16 hCn hln) | ((with_reducible refine gc 18 rfl ?_); refine gm (some 18) Tryz.func18 (spec_l7Numbers.calls _ _ _ _ _ _ _ _ HTL.out HTC.out Z1.out) ?_; rintro e Z17 ⟨Z15, rfl, Z16, hb⟩; obtain ⟨Am, cm, rfl, hlm, hCm⟩ := Kd.R_reads Z16; refine ⟨_, rfl, ?_⟩; have HMI := ra hCm; have HLM := ra hlm; replace HNI := ra (Kd.C_below HNI.out hb); replace BKp := bb (bk BKp) hb; replace HB := bs hb; replace HT := Sn.bT HT hb; replace HH := Sn.bH HH hb; replace HC := Sn.bC HC hb; replace HCB := Sn.bC HCB hb; replace Z10 := Sn.cb hb Z10; clear hb Z16 hCm hlm HTL; obtain ⟨Z18, Z19, Z20, Z21, Z22, Z23⟩ := Sn.zc3 BKp) | ((with_reducible refine gc 22 rfl ?_); refine gm (some 97) Tryz.func22 (spec_ProbeAll.calls _ _ _ _ _ _ (Sn.qC HC) HLC.out HAL.out) ?_; rintro e Z24 ⟨Z15, rfl, Z16, hb⟩; obtain ⟨Ac, cc, rfl, Z25, hCc⟩ := Kd.R_reads Z16; refine ⟨_, rfl, ?_⟩; have HCC := ra hCc; have HLCC := ra Z25; clear Z16 hCc Z25; replace BKp := bb (bk BKp) hb; replace HB := bs hb; replace HT := Sn.bT HT hb; replace HH := Sn.bH HH hb; replace HC := Sn.bC HC hb; replace HCB := Sn.bC HCB hb; clear Z18 Z19 Z20 Z21 Z22 Z23; obtain ⟨Z18, Z19, Z20, Z21, Z22, Z23⟩ := Sn.zc3 BKp; clear hb) | ((with_reducible refine gc 21 rfl ?_); refine gy (some 98) Tryz.func21 (spec_l7Clashes.calls _ _ _ _ _ _ (Sn.qC HCC) HLCC.out HCL.out) ?_; rintro Z26 hb; replace BKp := bb (bk BKp) hb; replace HB := bs hb; replace HT := Sn.bT HT hb; replace HH := Sn.bH HH hb; replace HC := Sn.bC HC hb; replace HCB := Sn.bC HCB hb; clear Z18 Z19 Z20 Z21 Z22 Z23; obtain ⟨Z18, Z19, Z20, Z21, Z22, Z23⟩ := Sn.zc3 BKp; clear hb))
 go_ret
 exact ⟨re, ⟨_, _, bk BKp, Sn.qS HT, Sn.qR HH, GEp.out⟩, bq⟩
theorem Sn.sl_with (k p : Nat) (L : List S33) (nm : ByteArray) (B : List S46) (Aw : Option Addr) (cw : Nat) (ws : List ByteArray) (a6 a1 : List Int) (o6 o1 : Bool) (w0 w : World) (hB : Below w0.heap.size w0 w) (hWG : Lb.WG w0) (hS : St 35 w w0.heap.size p L nm B) (hrw : Kd.C Kd.string w Aw ws.length ws) (hcw : ws.length ≤ cw) (h0 : 0 < ws.length) (h6 : spec_l7Numbers.f k (ws.drop 1) 6 = some (a6, o6)) (h1 : spec_l7Numbers.f k (ws.drop 1) 1 = some (a1, o1)) (hW : (rdOf ByteArray.empty ws 0).toList = [119, 105, 116, 104]) (hlen : ws.length = 1) (cl : List S70) (hwi : spec_ProbeWith.f k L nm B = some cl) (r : ByteArray) (hcl : spec_l7Clashes.f k cl = some r) :
  Calls Tryz.prog 9 #[.pointer (some ⟨p, 0, none⟩), .slice Aw ws.length cw] w fun e w' => e = .returned (.string r) ∧ St 35 w' w0.heap.size p L nm B ∧ Below w0.heap.size w0 w' := by
 obtain ⟨vT, vB, hBK, hT, hH, hp⟩ := hS
 obtain ⟨A, c, rfl, hlc, hC⟩ := Kd.S_reads hT
 obtain ⟨Ab, cb, rfl, hlb, hCb⟩ := Kd.R_reads hH
 have BKp := ra hBK; have HT := ra hT; have HH := ra hH; have HC := ra hC; have HCB := ra hCb; have HLC := ra hlc; have HLB := ra hlb; have HB := ra hB; have HWG := ra hWG; have GEp := ra hp; have HW := ra hrw; have HLW := ra hcw; have Z0 := ra h6; have Z1 := ra h1; have H0 := ra h0
 obtain ⟨Z2, Z3, _, hsz_, _⟩ := info_parts info9
 have hcut := cut_from (P := Tryz.prog) 27 9 .i64 Tryz.underlying27 Z3 1 hsz_ Aw ws.length cw 1 (by omega) (by omega)
 have htl := Kd.C_drop (m := (1 : Int).toNat) (c := cw) hrw (by have e_ : (1 : Int).toNat = 1 := rfl; omega) hcw
 obtain ⟨Z4, Z5⟩ : ∃ Z4, Z4 = (if cw = (1 : Int).toNat then Aw else (Aw : Option Addr).map (·.add ((1 : Int).toNat * 1))) := ⟨_, rfl⟩
 obtain ⟨Z6, Z7⟩ : ∃ Z6, Z6 = cw - (1 : Int).toNat := ⟨_, rfl⟩
 obtain ⟨tl, htl_⟩ : ∃ tl, tl = ws.drop 1 := ⟨_, rfl⟩
 have hy : tl.length = ws.length - (1 : Int).toNat := by rw [htl_, List.length_drop]; rfl
 replace htl : Kd.C Kd.string w Z4 tl.length tl := by rw [Z5, htl_]; exact htl
 rw [← hy, ← Z5, ← Z7] at hcut
 rw [← htl_] at Z0 Z1
 have HTL := ra htl
 have HTC := ra (show tl.length ≤ Z6 from by rw [hy, Z7]; exact Nat.sub_le_sub_right hcw _)
 clear hBK hT hH hC hCb hlc hlb hB hWG hp h6 h1 htl hy Z5 Z7 htl_
 obtain ⟨fw_tube, fw_box, fw_put, fw_drop, fw_all, fw_with, fw_meet, fw_cut, fw_free⟩ := fs_with hW
 have fn : ((ws.length : Int) == 1) = true := beq_iff_eq.mpr (by omega)
 have Z8 := ki 0 (ws.length : Int)
 have Z9 : (0 < ws.length) = True := eq_true h0
 obtain ⟨adw, ew, Z10⟩ := Kd.at_string hrw 0 (Int.le_refl _) (by omega); cases ew; replace Z10 := Sn.s0 Z10
 have HWI := ra hwi; have HCL := ra hcl; clear hwi hcl
 clear hrw hcw hW hlen
 have Z11 := Tryz.underlying35; have Z12 := Tryz.underlying55; have Z13 := Tryz.underlying33
 go_enter Tryz.func9, Tryz.ntmps9
 go_wp2_with (first | ((with_reducible refine gc 18 rfl ?_); refine gm (some 12) Tryz.func18 (spec_l7Numbers.calls _ _ _ _ _ _ _ _ HTL.out HTC.out Z0.out) ?_; rintro e Z14 ⟨Z15, rfl, Z16, hb⟩; obtain ⟨An, cn, rfl, hln, hCn⟩ := Kd.R_reads Z16; refine ⟨_, rfl, ?_⟩; have HNI := ra hCn; have HLN := ra hln; replace HTL := ra (Kd.C_below HTL.out hb); replace BKp := bb (bk BKp) hb; replace HB := bs hb; replace HT := Sn.bT HT hb; replace HH := Sn.bH HH hb; replace HC := Sn.bC HC hb; replace HCB := Sn.bC HCB hb; replace Z10 := Sn.cb hb Z10; clear hb Z16 hCn hln) | ((with_reducible refine gc 18 rfl ?_); refine gm (some 18) Tryz.func18 (spec_l7Numbers.calls _ _ _ _ _ _ _ _ HTL.out HTC.out Z1.out) ?_; rintro e Z17 ⟨Z15, rfl, Z16, hb⟩; obtain ⟨Am, cm, rfl, hlm, hCm⟩ := Kd.R_reads Z16; refine ⟨_, rfl, ?_⟩; have HMI := ra hCm; have HLM := ra hlm; replace HNI := ra (Kd.C_below HNI.out hb); replace BKp := bb (bk BKp) hb; replace HB := bs hb; replace HT := Sn.bT HT hb; replace HH := Sn.bH HH hb; replace HC := Sn.bC HC hb; replace HCB := Sn.bC HCB hb; replace Z10 := Sn.cb hb Z10; clear hb Z16 hCm hlm HTL; obtain ⟨Z18, Z19, Z20, Z21, Z22, Z23⟩ := Sn.zc3 BKp))
 have _ := ra (blk_drew BKp.out); have _ := ra (below_drew1 HB.out); have _ := Sn.drT HT; have _ := Sn.drH HH; have _ := Sn.drC HC; have _ := Sn.drC HCB
 clear BKp HB HT HH HC HCB
 rename_i BKp HB HT HH HC HCB
 clear Z18 Z19 Z20 Z21 Z22 Z23
 refine start_ (n := 11) (S := fun w' => w'.cell? ⟨p, 0, none⟩ = some (.slice A L.length c) ∧ w'.cell? ⟨p, 1, none⟩ = some (.string nm) ∧ w'.cell? ⟨p, 2, none⟩ = some (.slice Ab B.length cb)) (ds := []) (bl 11 0) (by kernel_rfl) rfl rfl ⟨(blk_cell BKp.out 0).trans rfl, (blk_cell BKp.out 1).trans rfl, (blk_cell BKp.out 2).trans rfl⟩ (fun hHeld => ?_)
 generalize Z17.drew = wf at BKp HB HT HH HC HCB hHeld ⊢
 refine pu 0 109 (bl 11 1) ?_
 refine pu 1 110 (bl 11 3) ?_
 refine pu 2 111 (bl 11 7) ?_
 refine pu 4 113 (bl 11 23) ?_
 refine pu 5 114 (bl 11 55) ?_
 refine pu 6 115 (bl 11 119) ?_
 refine tk 3 112 (bl 11 127) ?_ hHeld
 refine tk 7 116 (bl 11 255) ?_ hHeld
 refine oe 8 117 (bl 11 511) (fun K hK => ?_)
 refine goes_ Tryz.func23 (by kernel_rfl) rfl #[.slice A L.length c, .agg #[.string nm, .slice Ab B.length cb]] (by rfl) rfl rfl (by simp only [List.map_toArray, List.map_cons, List.map_nil]; rfl) ?_
 with_reducible refine (spec_ProbeWith.calls k A c L nm Ab cb B cl _ HC.out HLC.out HCB.out HLB.out HWI.out).mono ?_
 rintro e Z24 ⟨Z15, rfl, Z16, hb⟩
 obtain ⟨Ac, cc, rfl, Z25, hCc⟩ := Kd.R_reads Z16
 refine ⟨_, rfl, ?_⟩
 have HCC := ra hCc
 have HLCC := ra Z25
 clear Z16 hCc Z25
 have _ := bb (bk BKp) hb
 have _ := bs hb
 have _ := Sn.bT HT hb
 have _ := Sn.bH HH hb
 have _ := Sn.bC HC hb
 have _ := Sn.bC HCB hb
 clear BKp HB HT HH HC HCB
 rename_i BKp HB HT HH HC HCB
 clear hb
 refine hK.out _ _ ⟨(blk_cell BKp.out 0).trans rfl, (blk_cell BKp.out 1).trans rfl, (blk_cell BKp.out 2).trans rfl⟩ (fun hHeld => ?_)
 clear hK K
 refine Z.nm 117 ?_
 refine oe 9 118 (bl 11 1023) (fun K hK => ?_)
 refine goes_ Tryz.func21 (by kernel_rfl) rfl #[.slice Ac cl.length cc] (by rfl) rfl rfl (by simp only [List.map_toArray, List.map_cons, List.map_nil]; rfl) ?_
 with_reducible refine (spec_l7Clashes.calls k Ac cc cl r _ HCC.out HLCC.out HCL.out).mono ?_
 rintro e Z26 ⟨rfl, hb⟩
 refine ⟨_, rfl, ?_⟩
 have _ := bb (bk BKp) hb
 have _ := bs hb
 have _ := Sn.bT HT hb
 have _ := Sn.bH HH hb
 have _ := Sn.bC HC hb
 have _ := Sn.bC HCB hb
 clear BKp HB HT HH HC HCB
 rename_i BKp HB HT HH HC HCB
 clear hb
 refine hK.out _ _ ⟨(blk_cell BKp.out 0).trans rfl, (blk_cell BKp.out 1).trans rfl, (blk_cell BKp.out 2).trans rfl⟩ (fun hHeld => ?_)
 clear hK K
 refine Z.nm 118 ?_
 refine pu 10 4 (bl 11 2047) ?_
 refine done_ (by kernel_rfl) ?_
 try go_wp2
 go_ret
 exact ⟨re, ⟨_, _, bk BKp, Sn.qS HT, Sn.qR HH, GEp.out⟩, bq⟩
theorem Sn.sl_free_true (k p : Nat) (L : List S33) (nm : ByteArray) (B : List S46) (Aw : Option Addr) (cw : Nat) (ws : List ByteArray) (a6 a1 : List Int) (o6 o1 : Bool) (w0 w : World) (hB : Below w0.heap.size w0 w) (hWG : Lb.WG w0) (hS : St 35 w w0.heap.size p L nm B) (hrw : Kd.C Kd.string w Aw ws.length ws) (hcw : ws.length ≤ cw) (h0 : 0 < ws.length) (h6 : spec_l7Numbers.f k (ws.drop 1) 6 = some (a6, o6)) (h1 : spec_l7Numbers.f k (ws.drop 1) 1 = some (a1, o1)) (hW : (rdOf ByteArray.empty ws 0).toList = [102, 114, 101, 101]) (hlen : ws.length = 1) (hfr : spec_ProbeFree.f k L nm B = some true) :
  Calls Tryz.prog 9 #[.pointer (some ⟨p, 0, none⟩), .slice Aw ws.length cw] w fun e w' => e = .returned (.string (⟨#[121, 101, 115]⟩ : ByteArray)) ∧ St 35 w' w0.heap.size p L nm B ∧ Below w0.heap.size w0 w' := by
 obtain ⟨vT, vB, hBK, hT, hH, hp⟩ := hS
 obtain ⟨A, c, rfl, hlc, hC⟩ := Kd.S_reads hT
 obtain ⟨Ab, cb, rfl, hlb, hCb⟩ := Kd.R_reads hH
 have BKp := ra hBK; have HT := ra hT; have HH := ra hH; have HC := ra hC; have HCB := ra hCb; have HLC := ra hlc; have HLB := ra hlb; have HB := ra hB; have HWG := ra hWG; have GEp := ra hp; have HW := ra hrw; have HLW := ra hcw; have Z0 := ra h6; have Z1 := ra h1; have H0 := ra h0
 obtain ⟨Z2, Z3, _, hsz_, _⟩ := info_parts info9
 have hcut := cut_from (P := Tryz.prog) 27 9 .i64 Tryz.underlying27 Z3 1 hsz_ Aw ws.length cw 1 (by omega) (by omega)
 have htl := Kd.C_drop (m := (1 : Int).toNat) (c := cw) hrw (by have e_ : (1 : Int).toNat = 1 := rfl; omega) hcw
 obtain ⟨Z4, Z5⟩ : ∃ Z4, Z4 = (if cw = (1 : Int).toNat then Aw else (Aw : Option Addr).map (·.add ((1 : Int).toNat * 1))) := ⟨_, rfl⟩
 obtain ⟨Z6, Z7⟩ : ∃ Z6, Z6 = cw - (1 : Int).toNat := ⟨_, rfl⟩
 obtain ⟨tl, htl_⟩ : ∃ tl, tl = ws.drop 1 := ⟨_, rfl⟩
 have hy : tl.length = ws.length - (1 : Int).toNat := by rw [htl_, List.length_drop]; rfl
 replace htl : Kd.C Kd.string w Z4 tl.length tl := by rw [Z5, htl_]; exact htl
 rw [← hy, ← Z5, ← Z7] at hcut
 rw [← htl_] at Z0 Z1
 have HTL := ra htl
 have HTC := ra (show tl.length ≤ Z6 from by rw [hy, Z7]; exact Nat.sub_le_sub_right hcw _)
 clear hBK hT hH hC hCb hlc hlb hB hWG hp h6 h1 htl hy Z5 Z7 htl_
 obtain ⟨fw_tube, fw_box, fw_put, fw_drop, fw_all, fw_with, fw_meet, fw_cut, fw_free⟩ := fs_free hW
 have fn : ((ws.length : Int) == 1) = true := beq_iff_eq.mpr (by omega)
 have Z8 := ki 0 (ws.length : Int)
 have Z9 : (0 < ws.length) = True := eq_true h0
 obtain ⟨adw, ew, Z10⟩ := Kd.at_string hrw 0 (Int.le_refl _) (by omega); cases ew; replace Z10 := Sn.s0 Z10
 have HFR := ra hfr; clear hfr
 clear hrw hcw hW hlen
 have Z11 := Tryz.underlying35; have Z12 := Tryz.underlying55; have Z13 := Tryz.underlying33
 go_enter Tryz.func9, Tryz.ntmps9
 go_wp2_with (first | ((with_reducible refine gc 18 rfl ?_); refine gm (some 12) Tryz.func18 (spec_l7Numbers.calls _ _ _ _ _ _ _ _ HTL.out HTC.out Z0.out) ?_; rintro e Z14 ⟨Z15, rfl, Z16, hb⟩; obtain ⟨An, cn, rfl, hln, hCn⟩ := Kd.R_reads Z16; refine ⟨_, rfl, ?_⟩; have HNI := ra hCn; have HLN := ra hln; replace HTL := ra (Kd.C_below HTL.out hb); replace BKp := bb (bk BKp) hb; replace HB := bs hb; replace HT := Sn.bT HT hb; replace HH := Sn.bH HH hb; replace HC := Sn.bC HC hb; replace HCB := Sn.bC HCB hb; replace Z10 := Sn.cb hb Z10; clear hb Z16 hCn hln) | ((with_reducible refine gc 18 rfl ?_); refine gm (some 18) Tryz.func18 (spec_l7Numbers.calls _ _ _ _ _ _ _ _ HTL.out HTC.out Z1.out) ?_; rintro e Z17 ⟨Z15, rfl, Z16, hb⟩; obtain ⟨Am, cm, rfl, hlm, hCm⟩ := Kd.R_reads Z16; refine ⟨_, rfl, ?_⟩; have HMI := ra hCm; have HLM := ra hlm; replace HNI := ra (Kd.C_below HNI.out hb); replace BKp := bb (bk BKp) hb; replace HB := bs hb; replace HT := Sn.bT HT hb; replace HH := Sn.bH HH hb; replace HC := Sn.bC HC hb; replace HCB := Sn.bC HCB hb; replace Z10 := Sn.cb hb Z10; clear hb Z16 hCm hlm HTL; obtain ⟨Z18, Z19, Z20, Z21, Z22, Z23⟩ := Sn.zc3 BKp))
 have _ := ra (blk_drew BKp.out); have _ := ra (below_drew1 HB.out); have _ := Sn.drT HT; have _ := Sn.drH HH; have _ := Sn.drC HC; have _ := Sn.drC HCB
 clear BKp HB HT HH HC HCB
 rename_i BKp HB HT HH HC HCB
 clear Z18 Z19 Z20 Z21 Z22 Z23
 refine start_ (n := 9) (S := fun w' => w'.cell? ⟨p, 0, none⟩ = some (.slice A L.length c) ∧ w'.cell? ⟨p, 1, none⟩ = some (.string nm) ∧ w'.cell? ⟨p, 2, none⟩ = some (.slice Ab B.length cb)) (ds := []) (bl 9 0) (by kernel_rfl) rfl rfl ⟨(blk_cell BKp.out 0).trans rfl, (blk_cell BKp.out 1).trans rfl, (blk_cell BKp.out 2).trans rfl⟩ (fun hHeld => ?_)
 generalize Z17.drew = wf at BKp HB HT HH HC HCB hHeld ⊢
 refine pu 0 173 (bl 9 1) ?_
 refine pu 1 174 (bl 9 3) ?_
 refine pu 2 175 (bl 9 7) ?_
 refine pu 4 177 (bl 9 23) ?_
 refine pu 5 178 (bl 9 55) ?_
 refine pu 6 179 (bl 9 119) ?_
 refine tk 3 176 (bl 9 127) ?_ hHeld
 refine tk 7 180 (bl 9 255) ?_ hHeld
 refine oe 8 181 (bl 9 511) (fun K hK => ?_)
 refine goes_ Tryz.func26 (by kernel_rfl) rfl #[.slice A L.length c, .agg #[.string nm, .slice Ab B.length cb]] (by rfl) rfl rfl (by simp only [List.map_toArray, List.map_cons, List.map_nil]; rfl) ?_
 with_reducible refine (spec_ProbeFree.calls k A c L nm Ab cb B true _ HC.out HLC.out HCB.out HLB.out HFR.out).mono ?_
 rintro e Z24 ⟨rfl, hb⟩
 refine ⟨_, rfl, ?_⟩
 have _ := bb (bk BKp) hb
 have _ := bs hb
 have _ := Sn.bT HT hb
 have _ := Sn.bH HH hb
 have _ := Sn.bC HC hb
 have _ := Sn.bC HCB hb
 clear BKp HB HT HH HC HCB
 rename_i BKp HB HT HH HC HCB
 clear hb
 refine hK.out _ _ ⟨(blk_cell BKp.out 0).trans rfl, (blk_cell BKp.out 1).trans rfl, (blk_cell BKp.out 2).trans rfl⟩ (fun hHeld => ?_)
 clear hK K
 refine Z.nm 181 ?_
 refine done_ (by kernel_rfl) ?_
 try go_wp2
 go_ret
 exact ⟨re, ⟨_, _, bk BKp, Sn.qS HT, Sn.qR HH, GEp.out⟩, bq⟩
theorem Sn.sl_free_false (k p : Nat) (L : List S33) (nm : ByteArray) (B : List S46) (Aw : Option Addr) (cw : Nat) (ws : List ByteArray) (a6 a1 : List Int) (o6 o1 : Bool) (w0 w : World) (hB : Below w0.heap.size w0 w) (hWG : Lb.WG w0) (hS : St 35 w w0.heap.size p L nm B) (hrw : Kd.C Kd.string w Aw ws.length ws) (hcw : ws.length ≤ cw) (h0 : 0 < ws.length) (h6 : spec_l7Numbers.f k (ws.drop 1) 6 = some (a6, o6)) (h1 : spec_l7Numbers.f k (ws.drop 1) 1 = some (a1, o1)) (hW : (rdOf ByteArray.empty ws 0).toList = [102, 114, 101, 101]) (hlen : ws.length = 1) (hfr : spec_ProbeFree.f k L nm B = some false) :
  Calls Tryz.prog 9 #[.pointer (some ⟨p, 0, none⟩), .slice Aw ws.length cw] w fun e w' => e = .returned (.string (⟨#[110, 111]⟩ : ByteArray)) ∧ St 35 w' w0.heap.size p L nm B ∧ Below w0.heap.size w0 w' := by
 obtain ⟨vT, vB, hBK, hT, hH, hp⟩ := hS
 obtain ⟨A, c, rfl, hlc, hC⟩ := Kd.S_reads hT
 obtain ⟨Ab, cb, rfl, hlb, hCb⟩ := Kd.R_reads hH
 have BKp := ra hBK; have HT := ra hT; have HH := ra hH; have HC := ra hC; have HCB := ra hCb; have HLC := ra hlc; have HLB := ra hlb; have HB := ra hB; have HWG := ra hWG; have GEp := ra hp; have HW := ra hrw; have HLW := ra hcw; have Z0 := ra h6; have Z1 := ra h1; have H0 := ra h0
 obtain ⟨Z2, Z3, _, hsz_, _⟩ := info_parts info9
 have hcut := cut_from (P := Tryz.prog) 27 9 .i64 Tryz.underlying27 Z3 1 hsz_ Aw ws.length cw 1 (by omega) (by omega)
 have htl := Kd.C_drop (m := (1 : Int).toNat) (c := cw) hrw (by have e_ : (1 : Int).toNat = 1 := rfl; omega) hcw
 obtain ⟨Z4, Z5⟩ : ∃ Z4, Z4 = (if cw = (1 : Int).toNat then Aw else (Aw : Option Addr).map (·.add ((1 : Int).toNat * 1))) := ⟨_, rfl⟩
 obtain ⟨Z6, Z7⟩ : ∃ Z6, Z6 = cw - (1 : Int).toNat := ⟨_, rfl⟩
 obtain ⟨tl, htl_⟩ : ∃ tl, tl = ws.drop 1 := ⟨_, rfl⟩
 have hy : tl.length = ws.length - (1 : Int).toNat := by rw [htl_, List.length_drop]; rfl
 replace htl : Kd.C Kd.string w Z4 tl.length tl := by rw [Z5, htl_]; exact htl
 rw [← hy, ← Z5, ← Z7] at hcut
 rw [← htl_] at Z0 Z1
 have HTL := ra htl
 have HTC := ra (show tl.length ≤ Z6 from by rw [hy, Z7]; exact Nat.sub_le_sub_right hcw _)
 clear hBK hT hH hC hCb hlc hlb hB hWG hp h6 h1 htl hy Z5 Z7 htl_
 obtain ⟨fw_tube, fw_box, fw_put, fw_drop, fw_all, fw_with, fw_meet, fw_cut, fw_free⟩ := fs_free hW
 have fn : ((ws.length : Int) == 1) = true := beq_iff_eq.mpr (by omega)
 have Z8 := ki 0 (ws.length : Int)
 have Z9 : (0 < ws.length) = True := eq_true h0
 obtain ⟨adw, ew, Z10⟩ := Kd.at_string hrw 0 (Int.le_refl _) (by omega); cases ew; replace Z10 := Sn.s0 Z10
 have HFR := ra hfr; clear hfr
 clear hrw hcw hW hlen
 have Z11 := Tryz.underlying35; have Z12 := Tryz.underlying55; have Z13 := Tryz.underlying33
 go_enter Tryz.func9, Tryz.ntmps9
 go_wp2_with (first | ((with_reducible refine gc 18 rfl ?_); refine gm (some 12) Tryz.func18 (spec_l7Numbers.calls _ _ _ _ _ _ _ _ HTL.out HTC.out Z0.out) ?_; rintro e Z14 ⟨Z15, rfl, Z16, hb⟩; obtain ⟨An, cn, rfl, hln, hCn⟩ := Kd.R_reads Z16; refine ⟨_, rfl, ?_⟩; have HNI := ra hCn; have HLN := ra hln; replace HTL := ra (Kd.C_below HTL.out hb); replace BKp := bb (bk BKp) hb; replace HB := bs hb; replace HT := Sn.bT HT hb; replace HH := Sn.bH HH hb; replace HC := Sn.bC HC hb; replace HCB := Sn.bC HCB hb; replace Z10 := Sn.cb hb Z10; clear hb Z16 hCn hln) | ((with_reducible refine gc 18 rfl ?_); refine gm (some 18) Tryz.func18 (spec_l7Numbers.calls _ _ _ _ _ _ _ _ HTL.out HTC.out Z1.out) ?_; rintro e Z17 ⟨Z15, rfl, Z16, hb⟩; obtain ⟨Am, cm, rfl, hlm, hCm⟩ := Kd.R_reads Z16; refine ⟨_, rfl, ?_⟩; have HMI := ra hCm; have HLM := ra hlm; replace HNI := ra (Kd.C_below HNI.out hb); replace BKp := bb (bk BKp) hb; replace HB := bs hb; replace HT := Sn.bT HT hb; replace HH := Sn.bH HH hb; replace HC := Sn.bC HC hb; replace HCB := Sn.bC HCB hb; replace Z10 := Sn.cb hb Z10; clear hb Z16 hCm hlm HTL; obtain ⟨Z18, Z19, Z20, Z21, Z22, Z23⟩ := Sn.zc3 BKp))
 have _ := ra (blk_drew BKp.out); have _ := ra (below_drew1 HB.out); have _ := Sn.drT HT; have _ := Sn.drH HH; have _ := Sn.drC HC; have _ := Sn.drC HCB
 clear BKp HB HT HH HC HCB
 rename_i BKp HB HT HH HC HCB
 clear Z18 Z19 Z20 Z21 Z22 Z23
 refine start_ (n := 9) (S := fun w' => w'.cell? ⟨p, 0, none⟩ = some (.slice A L.length c) ∧ w'.cell? ⟨p, 1, none⟩ = some (.string nm) ∧ w'.cell? ⟨p, 2, none⟩ = some (.slice Ab B.length cb)) (ds := []) (bl 9 0) (by kernel_rfl) rfl rfl ⟨(blk_cell BKp.out 0).trans rfl, (blk_cell BKp.out 1).trans rfl, (blk_cell BKp.out 2).trans rfl⟩ (fun hHeld => ?_)
 generalize Z17.drew = wf at BKp HB HT HH HC HCB hHeld ⊢
 refine pu 0 173 (bl 9 1) ?_
 refine pu 1 174 (bl 9 3) ?_
 refine pu 2 175 (bl 9 7) ?_
 refine pu 4 177 (bl 9 23) ?_
 refine pu 5 178 (bl 9 55) ?_
 refine pu 6 179 (bl 9 119) ?_
 refine tk 3 176 (bl 9 127) ?_ hHeld
 refine tk 7 180 (bl 9 255) ?_ hHeld
 refine oe 8 181 (bl 9 511) (fun K hK => ?_)
 refine goes_ Tryz.func26 (by kernel_rfl) rfl #[.slice A L.length c, .agg #[.string nm, .slice Ab B.length cb]] (by rfl) rfl rfl (by simp only [List.map_toArray, List.map_cons, List.map_nil]; rfl) ?_
 with_reducible refine (spec_ProbeFree.calls k A c L nm Ab cb B false _ HC.out HLC.out HCB.out HLB.out HFR.out).mono ?_
 rintro e Z24 ⟨rfl, hb⟩
 refine ⟨_, rfl, ?_⟩
 have _ := bb (bk BKp) hb
 have _ := bs hb
 have _ := Sn.bT HT hb
 have _ := Sn.bH HH hb
 have _ := Sn.bC HC hb
 have _ := Sn.bC HCB hb
 clear BKp HB HT HH HC HCB
 rename_i BKp HB HT HH HC HCB
 clear hb
 refine hK.out _ _ ⟨(blk_cell BKp.out 0).trans rfl, (blk_cell BKp.out 1).trans rfl, (blk_cell BKp.out 2).trans rfl⟩ (fun hHeld => ?_)
 clear hK K
 refine Z.nm 181 ?_
 refine done_ (by kernel_rfl) ?_
 try go_wp2
 go_ret
 exact ⟨re, ⟨_, _, bk BKp, Sn.qS HT, Sn.qR HH, GEp.out⟩, bq⟩
theorem spec_s_meet.calls (k p : Nat) (L : List S33) (nm : ByteArray) (B : List S46) (a b r : ByteArray) (w0 w : World) (hB : Below w0.heap.size w0 w) (hS : St 35 w w0.heap.size p L nm B) (h : spec_s_meet.f k L a b = some r) :
  Calls Tryz.prog 24 #[.pointer (some ⟨p, 0, none⟩), .string a, .string b] w fun e w' => e = .returned (.string r) ∧ St 35 w' w0.heap.size p L nm B ∧ Below w0.heap.size w0 w' := by
 obtain ⟨A, c, Ab, cb, BKp, HT, HH, HC, HCB, HLC, HLB, GEp⟩ := Sn.op hS
 have HB := ra hB
 clear hB
 unfold spec_s_meet.f at h
 obtain ⟨i, ha, h⟩ := Option.bind_eq_some_iff.1 h
 obtain ⟨j, hb, h⟩ := Option.bind_eq_some_iff.1 h
 have HAI := ra ha; have HAJ := ra hb; clear ha hb
 by_cases hci : i < 0
 ·rw [if_pos (Or.inl hci)] at h
  obtain rfl := Option.some.inj h
  clear h
  have Z0 := Tryz.underlying35; have Z1 := Tryz.underlying33; have Z2 := Tryz.underlying70
  have ci : decide (i < 0) = true := decide_eq_true hci
  clear hci
  go_enter Tryz.func24, Tryz.ntmps24
  obtain ⟨Z3, Z4, Z5, Z6, Z7, Z8⟩ := Sn.zc3 BKp
  go_wp2_with (first | ((with_reducible refine gc 52 rfl ?_); refine gy (some 16) Tryz.func52 (spec_l6At.calls _ _ _ _ _ _ _ (Sn.qC HC) HLC.out HAI.out) ?_; rintro Z9 hd; have hb := Drawn0.below hd; replace BKp := bb (bk BKp) hb; replace HB := bs hb; replace HT := Sn.bT HT hb; replace HH := Sn.bH HH hb; replace HC := Sn.bC HC hb; replace HCB := Sn.bC HCB hb; clear Z3 Z4 Z5 Z6 Z7 Z8; obtain ⟨Z3, Z4, Z5, Z6, Z7, Z8⟩ := Sn.zc3 BKp; clear hb hd) | ((with_reducible refine gc 52 rfl ?_); refine gy (some 22) Tryz.func52 (spec_l6At.calls _ _ _ _ _ _ _ (Sn.qC HC) HLC.out HAJ.out) ?_; rintro Z10 hd; have hb := Drawn0.below hd; replace BKp := bb (bk BKp) hb; replace HB := bs hb; replace HT := Sn.bT HT hb; replace HH := Sn.bH HH hb; replace HC := Sn.bC HC hb; replace HCB := Sn.bC HCB hb; clear Z3 Z4 Z5 Z6 Z7 Z8; obtain ⟨Z3, Z4, Z5, Z6, Z7, Z8⟩ := Sn.zc3 BKp; clear hb hd))
  go_ret
  exact ⟨re, ⟨_, _, bk BKp, Sn.qS HT, Sn.qR HH, GEp.out⟩, bq⟩
 by_cases hcj : j < 0
 ·rw [if_pos (Or.inr hcj)] at h
  obtain rfl := Option.some.inj h
  clear h
  have Z0 := Tryz.underlying35; have Z1 := Tryz.underlying33; have Z2 := Tryz.underlying70
  have ci : decide (i < 0) = false := decide_eq_false (by omega)
  have cj : decide (j < 0) = true := decide_eq_true hcj
  clear hci hcj
  go_enter Tryz.func24, Tryz.ntmps24
  obtain ⟨Z3, Z4, Z5, Z6, Z7, Z8⟩ := Sn.zc3 BKp
  go_wp2_with (first | ((with_reducible refine gc 52 rfl ?_); refine gy (some 16) Tryz.func52 (spec_l6At.calls _ _ _ _ _ _ _ (Sn.qC HC) HLC.out HAI.out) ?_; rintro Z9 hd; have hb := Drawn0.below hd; replace BKp := bb (bk BKp) hb; replace HB := bs hb; replace HT := Sn.bT HT hb; replace HH := Sn.bH HH hb; replace HC := Sn.bC HC hb; replace HCB := Sn.bC HCB hb; clear Z3 Z4 Z5 Z6 Z7 Z8; obtain ⟨Z3, Z4, Z5, Z6, Z7, Z8⟩ := Sn.zc3 BKp; clear hb hd) | ((with_reducible refine gc 52 rfl ?_); refine gy (some 22) Tryz.func52 (spec_l6At.calls _ _ _ _ _ _ _ (Sn.qC HC) HLC.out HAJ.out) ?_; rintro Z10 hd; have hb := Drawn0.below hd; replace BKp := bb (bk BKp) hb; replace HB := bs hb; replace HT := Sn.bT HT hb; replace HH := Sn.bH HH hb; replace HC := Sn.bC HC hb; replace HCB := Sn.bC HCB hb; clear Z3 Z4 Z5 Z6 Z7 Z8; obtain ⟨Z3, Z4, Z5, Z6, Z7, Z8⟩ := Sn.zc3 BKp; clear hb hd))
  go_ret
  exact ⟨re, ⟨_, _, bk BKp, Sn.qS HT, Sn.qR HH, GEp.out⟩, bq⟩
 rw [if_neg (by omega)] at h
 by_cases hlt : i < (L.length : Int) ∧ j < (L.length : Int)
 rotate_left
 ·rw [if_neg hlt] at h; cases h
 rw [if_pos hlt] at h
 obtain ⟨⟨Z0, Z1, Z2, Z3, Z4, near⟩, hm, h⟩ := Option.bind_eq_some_iff.1 h
 dsimp only at h
 have HM := ra hm; clear hm
 cases near with
 | false =>
  rw [if_neg (by decide)] at h
  obtain rfl := Option.some.inj h
  clear h
  have Z5 := Tryz.underlying35; have Z6 := Tryz.underlying33; have Z7 := Tryz.underlying70
  have ci : decide (i < 0) = false := decide_eq_false (by omega)
  have cj : decide (j < 0) = false := decide_eq_false (by omega)
  have HIJ := ra (show (0 ≤ i ∧ i < (L.length : Int)) ∧ (0 ≤ j ∧ j < (L.length : Int)) from ⟨⟨by omega, hlt.1⟩, ⟨by omega, hlt.2⟩⟩)
  have pi := eq_true HIJ.out.1.1; have qi_ := eq_true HIJ.out.1.2; have pj := eq_true HIJ.out.2.1; have qj := eq_true HIJ.out.2.2
  clear hci hlt
  go_enter Tryz.func24, Tryz.ntmps24
  obtain ⟨Z8, Z9, Z10, Z11, Z12, Z13⟩ := Sn.zc3 BKp
  try go_wp2_with (first | ((with_reducible refine gc 52 rfl ?_); refine gy (some 16) Tryz.func52 (spec_l6At.calls _ _ _ _ _ _ _ (Sn.qC HC) HLC.out HAI.out) ?_; rintro Z14 hd; have hb := Drawn0.below hd; replace BKp := bb (bk BKp) hb; replace HB := bs hb; replace HT := Sn.bT HT hb; replace HH := Sn.bH HH hb; replace HC := Sn.bC HC hb; replace HCB := Sn.bC HCB hb; clear Z8 Z9 Z10 Z11 Z12 Z13; obtain ⟨Z8, Z9, Z10, Z11, Z12, Z13⟩ := Sn.zc3 BKp; clear hb hd) | ((with_reducible refine gc 52 rfl ?_); refine gy (some 22) Tryz.func52 (spec_l6At.calls _ _ _ _ _ _ _ (Sn.qC HC) HLC.out HAJ.out) ?_; rintro Z15 hd; have hb := Drawn0.below hd; replace BKp := bb (bk BKp) hb; replace HB := bs hb; replace HT := Sn.bT HT hb; replace HH := Sn.bH HH hb; replace HC := Sn.bC HC hb; replace HCB := Sn.bC HCB hb; clear Z8 Z9 Z10 Z11 Z12 Z13; obtain ⟨Z8, Z9, Z10, Z11, Z12, Z13⟩ := Sn.zc3 BKp; clear hb hd))
  have _ := ra (blk_drew BKp.out); have _ := ra (below_drew1 HB.out); have _ := Sn.drT HT; have _ := Sn.drH HH; have _ := Sn.drC HC; have _ := Sn.drC HCB
  clear BKp HB HT HH HC HCB
  rename_i BKp HB HT HH HC HCB
  clear Z8 Z9 Z10 Z11 Z12 Z13
  obtain ⟨ad, Z16, Z17, Z18, Z19, Z20, Z21, Z22⟩ := at_T33 HC.out i HIJ.out.1.1 HIJ.out.1.2
  cases Z18
  obtain ⟨_, Z23, Z24, Z25, Z26, Z27, Z28, Z29⟩ := at_T33 HC.out j HIJ.out.2.1 HIJ.out.2.2
  cases Z25
  have Z30 := ra Z21; have Z31 := ra Z22; have Z32 := ra Z28; have Z33 := ra Z29
  clear Z21 Z22 Z28 Z29
  have Z34 : Z15.drew.cell? ⟨p, 0, none⟩ = some (.slice (some ad) L.length c) := (blk_cell BKp.out 0).trans rfl
  refine start_ (n := 21) (S := fun w' => w'.cell? ⟨p, 0, none⟩ = some (.slice (some ad) L.length c) ∧ w'.cell? (ad.add (i.toNat * 2)) = some (.string (rd_T33 L i).f0) ∧ w'.cell? ⟨(ad.add (i.toNat * 2)).block, (ad.add (i.toNat * 2)).off + 1, none⟩ = some (.slice Z16 (rd_T33 L i).f1.length Z17) ∧ w'.cell? (ad.add (j.toNat * 2)) = some (.string (rd_T33 L j).f0) ∧ w'.cell? ⟨(ad.add (j.toNat * 2)).block, (ad.add (j.toNat * 2)).off + 1, none⟩ = some (.slice Z23 (rd_T33 L j).f1.length Z24)) (ds := [19]) #[false, false, false, false, false, false, false, false, false, false, false, false, false, false, false, false, false, false, false, false, false] (by kernel_rfl) rfl rfl ⟨Z34, Z19, Z20, Z26, Z27⟩ (fun hHeld => ?_)
  generalize Z15.drew = wf at BKp HB HT HH HC HCB Z31 Z33 Z34 Z19 Z20 Z26 Z27 hHeld ⊢
  have HBf := ra (Below.refl wf.heap.size wf)
  refine pu 0 30 (bl 21 1) ?_
  refine pu 1 31 (bl 21 3) ?_
  refine pu 2 32 (bl 21 7) ?_
  refine pu 4 34 (bl 21 23) ?_
  refine pu 7 37 (bl 21 151) ?_
  refine pu 8 38 (bl 21 407) ?_
  refine pu 9 39 (bl 21 919) ?_
  refine pu 11 41 (bl 21 2967) ?_
  refine tk 3 33 (bl 21 2975) ?_ hHeld
  refine pu 5 35 (bl 21 3007) ?_
  refine tk 6 36 (bl 21 3071) ?_ hHeld
  refine tk 10 40 (bl 21 4095) ?_ hHeld
  refine pu 12 42 (bl 21 8191) ?_
  refine tk 13 43 (bl 21 16383) ?_ hHeld
  refine join_ (σ := Nat) 2 #[true, true, true, true, true, true, true, true, true, true, true, true, true, true, true, true, true, true, true, false, false] (fun s_ => [(44, .tuple #[.agg #[.string Z0, .string Z1, .int .i64 Z2, .int .i64 Z3, .int .i64 Z4], .bool false]), (9, .pointer (some ⟨s_, 0, none⟩)), (29, .tuple #[.agg #[.string Z0, .string Z1, .int .i64 Z2, .int .i64 Z3, .int .i64 Z4], .bool false]), (45, .agg #[.string Z0, .string Z1, .int .i64 Z2, .int .i64 Z3, .int .i64 Z4]), (46, .bool false)]) (fun s_ w' => w'.heap[s_]? = some (.cells #[.string (⟨#[]⟩ : ByteArray), .string (⟨#[]⟩ : ByteArray), .int .i64 0, .int .i64 0, .int .i64 0] 70 (0, 0)) ∧ wf.heap.size ≤ s_ ∧ Below wf.heap.size wf w') ?_ ?_
  rotate_left
  ·intro hCont
   refine two_ (i := 14) (j := 18) (Ni := some 44) (Nj := some 9) #[true, true, true, true, true, true, true, true, true, true, true, true, true, true, true, false, false, false, false, false, false] #[true, true, true, true, true, true, true, true, true, true, true, true, true, true, false, false, false, false, true, false, false] rfl rfl rfl rfl (by kernel_rfl) (by decide) (by decide) (fun K hK => ?_) (fun K hK => ?_)
   ·skip
    refine goes_ Tryz.func53 (by kernel_rfl) rfl #[.agg #[.string (rd_T33 L i).f0, .slice Z16 (rd_T33 L i).f1.length Z17], .agg #[.string (rd_T33 L j).f0, .slice Z23 (rd_T33 L j).f1.length Z24]] (by rfl) rfl rfl (by simp only [List.map_toArray, List.map_cons, List.map_nil]; rfl) ?_
    with_reducible refine (spec_ProbeMeet.calls k (rd_T33 L i).f0 Z16 Z17 (rd_T33 L i).f1 (rd_T33 L j).f0 Z23 Z24 (rd_T33 L j).f1 Z0 Z1 Z2 Z3 Z4 false _ (Kd.C_below Z31.out HBf.out) Z30.out (Kd.C_below Z33.out HBf.out) Z32.out HM.out).mono ?_
    rintro e wx ⟨rfl, hb⟩
    refine ⟨_, rfl, ?_⟩
    have _ := ra (below_step HBf.out hb)
    clear HBf hb
    rename_i HBf
    refine hK.out _ _ ⟨hc HBf Z34, hc HBf Z19, hc HBf Z20, hc HBf Z26, hc HBf Z27⟩ (fun hHeld => ?_)
    clear hK K
    refine Z.nm 44 ?_
    refine pu 15 29 (bl 21 65535) ?_
    refine pu 16 45 (bl 21 131071) ?_
    refine pu 17 46 (bl 21 262143) ?_
    refine oe 18 9 (bl 21 524287) (fun K hK => ?_)
    refine box_step ?hg (N := 9) ?hd (cs := #[.string (⟨#[]⟩ : ByteArray), .string (⟨#[]⟩ : ByteArray), .int .i64 0, .int .i64 0, .int .i64 0]) (t := 70) ?hr ?_; (case hd => rfl); (case hg => rfl); (case hr => first | (go_simp; done) | (go_simp; rfl))
    intro Z35 hg wy hbox hb
    have Z36 := ra hbox
    have Z37 := ra (show wf.heap.size ≤ Z35 from (by rw [hg]; exact below_size HBf.out))
    clear hbox hg
    have _ := ra (below_step HBf.out hb)
    clear HBf hb
    rename_i HBf
    refine hK.out _ _ ⟨hc HBf Z34, hc HBf Z19, hc HBf Z20, hc HBf Z26, hc HBf Z27⟩ (fun hHeld => ?_)
    clear hK K
    refine Z.nm 9 ?_
    exact norm_ (by simp only [putAll, Act.put, List.setIfInBounds_toArray, List.set_cons_zero, List.set_cons_succ]) (hCont Z35 _ ⟨Z36.out, Z37.out, HBf.out⟩)
   ·skip
    refine box_step ?hg (N := 9) ?hd (cs := #[.string (⟨#[]⟩ : ByteArray), .string (⟨#[]⟩ : ByteArray), .int .i64 0, .int .i64 0, .int .i64 0]) (t := 70) ?hr ?_; (case hd => rfl); (case hg => rfl); (case hr => first | (go_simp; done) | (go_simp; rfl))
    intro Z35 hg wy hbox hb
    have Z36 := ra hbox
    have Z37 := ra (show wf.heap.size ≤ Z35 from (by rw [hg]; exact below_size HBf.out))
    clear hbox hg
    have _ := ra (below_step HBf.out hb)
    clear HBf hb
    rename_i HBf
    refine hK.out _ _ ⟨hc HBf Z34, hc HBf Z19, hc HBf Z20, hc HBf Z26, hc HBf Z27⟩ (fun hHeld => ?_)
    clear hK K
    refine Z.nm 9 ?_
    refine oe 14 44 (bl 21 294911) (fun K hK => ?_)
    refine goes_ Tryz.func53 (by kernel_rfl) rfl #[.agg #[.string (rd_T33 L i).f0, .slice Z16 (rd_T33 L i).f1.length Z17], .agg #[.string (rd_T33 L j).f0, .slice Z23 (rd_T33 L j).f1.length Z24]] (by rfl) rfl rfl (by simp only [List.map_toArray, List.map_cons, List.map_nil]; rfl) ?_
    with_reducible refine (spec_ProbeMeet.calls k (rd_T33 L i).f0 Z16 Z17 (rd_T33 L i).f1 (rd_T33 L j).f0 Z23 Z24 (rd_T33 L j).f1 Z0 Z1 Z2 Z3 Z4 false _ (Kd.C_below Z31.out HBf.out) Z30.out (Kd.C_below Z33.out HBf.out) Z32.out HM.out).mono ?_
    rintro e wx ⟨rfl, hb⟩
    refine ⟨_, rfl, ?_⟩
    have _ := bb (bk Z36) hb
    clear Z36
    rename_i Z36
    have _ := ra (below_step HBf.out hb)
    clear HBf hb
    rename_i HBf
    refine hK.out _ _ ⟨hc HBf Z34, hc HBf Z19, hc HBf Z20, hc HBf Z26, hc HBf Z27⟩ (fun hHeld => ?_)
    clear hK K
    refine Z.nm 44 ?_
    refine pu 15 29 (bl 21 327679) ?_
    refine pu 16 45 (bl 21 393215) ?_
    refine pu 17 46 (bl 21 524287) ?_
    exact norm_ (by simp only [putAll, Act.put, List.setIfInBounds_toArray, List.set_cons_zero, List.set_cons_succ]) (hCont Z35 _ ⟨Z36.out, Z37.out, HBf.out⟩)
  rintro Z35 wg ⟨hX, hY, hb⟩
  clear HBf
  have Z36 := ra hX
  have Z37 := ra hY
  have HBf := ra hb
  clear hX hY hb
  have hHeld : (wg.cell? ⟨p, 0, none⟩ = some (.slice (some ad) L.length c) ∧ wg.cell? (ad.add (i.toNat * 2)) = some (.string (rd_T33 L i).f0) ∧ wg.cell? ⟨(ad.add (i.toNat * 2)).block, (ad.add (i.toNat * 2)).off + 1, none⟩ = some (.slice Z16 (rd_T33 L i).f1.length Z17) ∧ wg.cell? (ad.add (j.toNat * 2)) = some (.string (rd_T33 L j).f0) ∧ wg.cell? ⟨(ad.add (j.toNat * 2)).block, (ad.add (j.toNat * 2)).off + 1, none⟩ = some (.slice Z23 (rd_T33 L j).f1.length Z24)) := ⟨hc HBf Z34, hc HBf Z19, hc HBf Z20, hc HBf Z26, hc HBf Z27⟩
  refine norm_ (a' := ?_) ?_ ?_
  rotate_left
  ·simp only [putAll, Act.put, List.setIfInBounds_toArray, List.set_cons_zero, List.set_cons_succ]
   rfl
  refine last_ (i := 19) (N := none) #[true, true, true, true, true, true, true, true, true, true, true, true, true, true, true, true, true, true, true, true, false] rfl rfl (by kernel_rfl) (by decide) (fun K hK => ?_)
  obtain ⟨Z38, Z39, Z40, Z41, Z42, Z43, Z44, Z45, Z46, Z47⟩ := zc5 Z36
  refine skip_ (w1 := ?_) (by rfl) rfl ?_ ?_
  rotate_left
  ·go_simp
   rfl
  refine hK.out _ _ ?_
  clear hK K
  refine pu 20 10 (bl 21 2097151) ?_
  refine done_ (by kernel_rfl) ?_
  have hb : Below wf.heap.size wf (((((wg.setCell ⟨Z35, 0, none⟩ (.string Z0)).setCell ⟨Z35, 1, none⟩ (.string Z1)).setCell ⟨Z35, 2, none⟩ (.int .i64 Z2)).setCell ⟨Z35, 3, none⟩ (.int .i64 Z3)).setCell ⟨Z35, 4, none⟩ (.int .i64 Z4)) := (below_set (below_set (below_set (below_set (below_set HBf.out Z37.out) Z37.out) Z37.out) Z37.out) Z37.out)
  have _ : Aside0 ((((((wg.setCell ⟨Z35, 0, none⟩ (.string Z0)).setCell ⟨Z35, 1, none⟩ (.string Z1)).setCell ⟨Z35, 2, none⟩ (.int .i64 Z2)).setCell ⟨Z35, 3, none⟩ (.int .i64 Z3)).setCell ⟨Z35, 4, none⟩ (.int .i64 Z4)).heap[Z35]? = some (.cells #[.string Z0, .string Z1, .int .i64 Z2, .int .i64 Z3, .int .i64 Z4] 70 (0, 0))) := ⟨bp Z36⟩
  clear Z36 HBf Z38 Z39 Z40 Z41 Z42 Z43 Z44 Z45 Z46 Z47 Z34 Z19 Z20 Z26 Z27
  rename_i Z36
  generalize (((((wg.setCell ⟨Z35, 0, none⟩ (.string Z0)).setCell ⟨Z35, 1, none⟩ (.string Z1)).setCell ⟨Z35, 2, none⟩ (.int .i64 Z2)).setCell ⟨Z35, 3, none⟩ (.int .i64 Z3)).setCell ⟨Z35, 4, none⟩ (.int .i64 Z4)) = Z48 at Z36 hb ⊢
  have _ := ra (Kd.S_below HT.out hb); have _ := ra (Kd.R_below HH.out hb); have _ := bb (bk BKp) hb; have _ := bs hb
  clear HT HH BKp HB HC HCB hb
  rename_i HT HH BKp HB
  obtain ⟨Z38, Z39, Z40, Z41, Z42, Z43, Z44, Z45, Z46, Z47⟩ := zc5 Z36
  go_wp2
  go_ret
  exact ⟨re, ⟨_, _, bk BKp, Sn.qS HT, Sn.qR HH, GEp.out⟩, bq⟩
 | true =>
  rw [if_pos rfl] at h
  have HR := ra h
  clear h
  have Z5 := Tryz.underlying35; have Z6 := Tryz.underlying33; have Z7 := Tryz.underlying70
  have ci : decide (i < 0) = false := decide_eq_false (by omega)
  have cj : decide (j < 0) = false := decide_eq_false (by omega)
  have HIJ := ra (show (0 ≤ i ∧ i < (L.length : Int)) ∧ (0 ≤ j ∧ j < (L.length : Int)) from ⟨⟨by omega, hlt.1⟩, ⟨by omega, hlt.2⟩⟩)
  have pi := eq_true HIJ.out.1.1; have qi_ := eq_true HIJ.out.1.2; have pj := eq_true HIJ.out.2.1; have qj := eq_true HIJ.out.2.2
  clear hci hlt
  go_enter Tryz.func24, Tryz.ntmps24
  obtain ⟨Z8, Z9, Z10, Z11, Z12, Z13⟩ := Sn.zc3 BKp
  try go_wp2_with (first | ((with_reducible refine gc 52 rfl ?_); refine gy (some 16) Tryz.func52 (spec_l6At.calls _ _ _ _ _ _ _ (Sn.qC HC) HLC.out HAI.out) ?_; rintro Z14 hd; have hb := Drawn0.below hd; replace BKp := bb (bk BKp) hb; replace HB := bs hb; replace HT := Sn.bT HT hb; replace HH := Sn.bH HH hb; replace HC := Sn.bC HC hb; replace HCB := Sn.bC HCB hb; clear Z8 Z9 Z10 Z11 Z12 Z13; obtain ⟨Z8, Z9, Z10, Z11, Z12, Z13⟩ := Sn.zc3 BKp; clear hb hd) | ((with_reducible refine gc 52 rfl ?_); refine gy (some 22) Tryz.func52 (spec_l6At.calls _ _ _ _ _ _ _ (Sn.qC HC) HLC.out HAJ.out) ?_; rintro Z15 hd; have hb := Drawn0.below hd; replace BKp := bb (bk BKp) hb; replace HB := bs hb; replace HT := Sn.bT HT hb; replace HH := Sn.bH HH hb; replace HC := Sn.bC HC hb; replace HCB := Sn.bC HCB hb; clear Z8 Z9 Z10 Z11 Z12 Z13; obtain ⟨Z8, Z9, Z10, Z11, Z12, Z13⟩ := Sn.zc3 BKp; clear hb hd))
  have _ := ra (blk_drew BKp.out); have _ := ra (below_drew1 HB.out); have _ := Sn.drT HT; have _ := Sn.drH HH; have _ := Sn.drC HC; have _ := Sn.drC HCB
  clear BKp HB HT HH HC HCB
  rename_i BKp HB HT HH HC HCB
  clear Z8 Z9 Z10 Z11 Z12 Z13
  obtain ⟨ad, Z16, Z17, Z18, Z19, Z20, Z21, Z22⟩ := at_T33 HC.out i HIJ.out.1.1 HIJ.out.1.2
  cases Z18
  obtain ⟨_, Z23, Z24, Z25, Z26, Z27, Z28, Z29⟩ := at_T33 HC.out j HIJ.out.2.1 HIJ.out.2.2
  cases Z25
  have Z30 := ra Z21; have Z31 := ra Z22; have Z32 := ra Z28; have Z33 := ra Z29
  clear Z21 Z22 Z28 Z29
  have Z34 : Z15.drew.cell? ⟨p, 0, none⟩ = some (.slice (some ad) L.length c) := (blk_cell BKp.out 0).trans rfl
  refine start_ (n := 21) (S := fun w' => w'.cell? ⟨p, 0, none⟩ = some (.slice (some ad) L.length c) ∧ w'.cell? (ad.add (i.toNat * 2)) = some (.string (rd_T33 L i).f0) ∧ w'.cell? ⟨(ad.add (i.toNat * 2)).block, (ad.add (i.toNat * 2)).off + 1, none⟩ = some (.slice Z16 (rd_T33 L i).f1.length Z17) ∧ w'.cell? (ad.add (j.toNat * 2)) = some (.string (rd_T33 L j).f0) ∧ w'.cell? ⟨(ad.add (j.toNat * 2)).block, (ad.add (j.toNat * 2)).off + 1, none⟩ = some (.slice Z23 (rd_T33 L j).f1.length Z24)) (ds := [19]) #[false, false, false, false, false, false, false, false, false, false, false, false, false, false, false, false, false, false, false, false, false] (by kernel_rfl) rfl rfl ⟨Z34, Z19, Z20, Z26, Z27⟩ (fun hHeld => ?_)
  generalize Z15.drew = wf at BKp HB HT HH HC HCB Z31 Z33 Z34 Z19 Z20 Z26 Z27 hHeld ⊢
  have HBf := ra (Below.refl wf.heap.size wf)
  refine pu 0 30 (bl 21 1) ?_
  refine pu 1 31 (bl 21 3) ?_
  refine pu 2 32 (bl 21 7) ?_
  refine pu 4 34 (bl 21 23) ?_
  refine pu 7 37 (bl 21 151) ?_
  refine pu 8 38 (bl 21 407) ?_
  refine pu 9 39 (bl 21 919) ?_
  refine pu 11 41 (bl 21 2967) ?_
  refine tk 3 33 (bl 21 2975) ?_ hHeld
  refine pu 5 35 (bl 21 3007) ?_
  refine tk 6 36 (bl 21 3071) ?_ hHeld
  refine tk 10 40 (bl 21 4095) ?_ hHeld
  refine pu 12 42 (bl 21 8191) ?_
  refine tk 13 43 (bl 21 16383) ?_ hHeld
  refine join_ (σ := Nat) 2 #[true, true, true, true, true, true, true, true, true, true, true, true, true, true, true, true, true, true, true, false, false] (fun s_ => [(44, .tuple #[.agg #[.string Z0, .string Z1, .int .i64 Z2, .int .i64 Z3, .int .i64 Z4], .bool true]), (9, .pointer (some ⟨s_, 0, none⟩)), (29, .tuple #[.agg #[.string Z0, .string Z1, .int .i64 Z2, .int .i64 Z3, .int .i64 Z4], .bool true]), (45, .agg #[.string Z0, .string Z1, .int .i64 Z2, .int .i64 Z3, .int .i64 Z4]), (46, .bool true)]) (fun s_ w' => w'.heap[s_]? = some (.cells #[.string (⟨#[]⟩ : ByteArray), .string (⟨#[]⟩ : ByteArray), .int .i64 0, .int .i64 0, .int .i64 0] 70 (0, 0)) ∧ wf.heap.size ≤ s_ ∧ Below wf.heap.size wf w') ?_ ?_
  rotate_left
  ·intro hCont
   refine two_ (i := 14) (j := 18) (Ni := some 44) (Nj := some 9) #[true, true, true, true, true, true, true, true, true, true, true, true, true, true, true, false, false, false, false, false, false] #[true, true, true, true, true, true, true, true, true, true, true, true, true, true, false, false, false, false, true, false, false] rfl rfl rfl rfl (by kernel_rfl) (by decide) (by decide) (fun K hK => ?_) (fun K hK => ?_)
   ·skip
    refine goes_ Tryz.func53 (by kernel_rfl) rfl #[.agg #[.string (rd_T33 L i).f0, .slice Z16 (rd_T33 L i).f1.length Z17], .agg #[.string (rd_T33 L j).f0, .slice Z23 (rd_T33 L j).f1.length Z24]] (by rfl) rfl rfl (by simp only [List.map_toArray, List.map_cons, List.map_nil]; rfl) ?_
    with_reducible refine (spec_ProbeMeet.calls k (rd_T33 L i).f0 Z16 Z17 (rd_T33 L i).f1 (rd_T33 L j).f0 Z23 Z24 (rd_T33 L j).f1 Z0 Z1 Z2 Z3 Z4 true _ (Kd.C_below Z31.out HBf.out) Z30.out (Kd.C_below Z33.out HBf.out) Z32.out HM.out).mono ?_
    rintro e wx ⟨rfl, hb⟩
    refine ⟨_, rfl, ?_⟩
    have _ := ra (below_step HBf.out hb)
    clear HBf hb
    rename_i HBf
    refine hK.out _ _ ⟨hc HBf Z34, hc HBf Z19, hc HBf Z20, hc HBf Z26, hc HBf Z27⟩ (fun hHeld => ?_)
    clear hK K
    refine Z.nm 44 ?_
    refine pu 15 29 (bl 21 65535) ?_
    refine pu 16 45 (bl 21 131071) ?_
    refine pu 17 46 (bl 21 262143) ?_
    refine oe 18 9 (bl 21 524287) (fun K hK => ?_)
    refine box_step ?hg (N := 9) ?hd (cs := #[.string (⟨#[]⟩ : ByteArray), .string (⟨#[]⟩ : ByteArray), .int .i64 0, .int .i64 0, .int .i64 0]) (t := 70) ?hr ?_; (case hd => rfl); (case hg => rfl); (case hr => first | (go_simp; done) | (go_simp; rfl))
    intro Z35 hg wy hbox hb
    have Z36 := ra hbox
    have Z37 := ra (show wf.heap.size ≤ Z35 from (by rw [hg]; exact below_size HBf.out))
    clear hbox hg
    have _ := ra (below_step HBf.out hb)
    clear HBf hb
    rename_i HBf
    refine hK.out _ _ ⟨hc HBf Z34, hc HBf Z19, hc HBf Z20, hc HBf Z26, hc HBf Z27⟩ (fun hHeld => ?_)
    clear hK K
    refine Z.nm 9 ?_
    exact norm_ (by simp only [putAll, Act.put, List.setIfInBounds_toArray, List.set_cons_zero, List.set_cons_succ]) (hCont Z35 _ ⟨Z36.out, Z37.out, HBf.out⟩)
   ·skip
    refine box_step ?hg (N := 9) ?hd (cs := #[.string (⟨#[]⟩ : ByteArray), .string (⟨#[]⟩ : ByteArray), .int .i64 0, .int .i64 0, .int .i64 0]) (t := 70) ?hr ?_; (case hd => rfl); (case hg => rfl); (case hr => first | (go_simp; done) | (go_simp; rfl))
    intro Z35 hg wy hbox hb
    have Z36 := ra hbox
    have Z37 := ra (show wf.heap.size ≤ Z35 from (by rw [hg]; exact below_size HBf.out))
    clear hbox hg
    have _ := ra (below_step HBf.out hb)
    clear HBf hb
    rename_i HBf
    refine hK.out _ _ ⟨hc HBf Z34, hc HBf Z19, hc HBf Z20, hc HBf Z26, hc HBf Z27⟩ (fun hHeld => ?_)
    clear hK K
    refine Z.nm 9 ?_
    refine oe 14 44 (bl 21 294911) (fun K hK => ?_)
    refine goes_ Tryz.func53 (by kernel_rfl) rfl #[.agg #[.string (rd_T33 L i).f0, .slice Z16 (rd_T33 L i).f1.length Z17], .agg #[.string (rd_T33 L j).f0, .slice Z23 (rd_T33 L j).f1.length Z24]] (by rfl) rfl rfl (by simp only [List.map_toArray, List.map_cons, List.map_nil]; rfl) ?_
    with_reducible refine (spec_ProbeMeet.calls k (rd_T33 L i).f0 Z16 Z17 (rd_T33 L i).f1 (rd_T33 L j).f0 Z23 Z24 (rd_T33 L j).f1 Z0 Z1 Z2 Z3 Z4 true _ (Kd.C_below Z31.out HBf.out) Z30.out (Kd.C_below Z33.out HBf.out) Z32.out HM.out).mono ?_
    rintro e wx ⟨rfl, hb⟩
    refine ⟨_, rfl, ?_⟩
    have _ := bb (bk Z36) hb
    clear Z36
    rename_i Z36
    have _ := ra (below_step HBf.out hb)
    clear HBf hb
    rename_i HBf
    refine hK.out _ _ ⟨hc HBf Z34, hc HBf Z19, hc HBf Z20, hc HBf Z26, hc HBf Z27⟩ (fun hHeld => ?_)
    clear hK K
    refine Z.nm 44 ?_
    refine pu 15 29 (bl 21 327679) ?_
    refine pu 16 45 (bl 21 393215) ?_
    refine pu 17 46 (bl 21 524287) ?_
    exact norm_ (by simp only [putAll, Act.put, List.setIfInBounds_toArray, List.set_cons_zero, List.set_cons_succ]) (hCont Z35 _ ⟨Z36.out, Z37.out, HBf.out⟩)
  rintro Z35 wg ⟨hX, hY, hb⟩
  clear HBf
  have Z36 := ra hX
  have Z37 := ra hY
  have HBf := ra hb
  clear hX hY hb
  have hHeld : (wg.cell? ⟨p, 0, none⟩ = some (.slice (some ad) L.length c) ∧ wg.cell? (ad.add (i.toNat * 2)) = some (.string (rd_T33 L i).f0) ∧ wg.cell? ⟨(ad.add (i.toNat * 2)).block, (ad.add (i.toNat * 2)).off + 1, none⟩ = some (.slice Z16 (rd_T33 L i).f1.length Z17) ∧ wg.cell? (ad.add (j.toNat * 2)) = some (.string (rd_T33 L j).f0) ∧ wg.cell? ⟨(ad.add (j.toNat * 2)).block, (ad.add (j.toNat * 2)).off + 1, none⟩ = some (.slice Z23 (rd_T33 L j).f1.length Z24)) := ⟨hc HBf Z34, hc HBf Z19, hc HBf Z20, hc HBf Z26, hc HBf Z27⟩
  refine norm_ (a' := ?_) ?_ ?_
  rotate_left
  ·simp only [putAll, Act.put, List.setIfInBounds_toArray, List.set_cons_zero, List.set_cons_succ]
   rfl
  refine last_ (i := 19) (N := none) #[true, true, true, true, true, true, true, true, true, true, true, true, true, true, true, true, true, true, true, true, false] rfl rfl (by kernel_rfl) (by decide) (fun K hK => ?_)
  obtain ⟨Z38, Z39, Z40, Z41, Z42, Z43, Z44, Z45, Z46, Z47⟩ := zc5 Z36
  refine skip_ (w1 := ?_) (by rfl) rfl ?_ ?_
  rotate_left
  ·go_simp
   rfl
  refine hK.out _ _ ?_
  clear hK K
  refine pu 20 10 (bl 21 2097151) ?_
  refine done_ (by kernel_rfl) ?_
  have hb : Below wf.heap.size wf (((((wg.setCell ⟨Z35, 0, none⟩ (.string Z0)).setCell ⟨Z35, 1, none⟩ (.string Z1)).setCell ⟨Z35, 2, none⟩ (.int .i64 Z2)).setCell ⟨Z35, 3, none⟩ (.int .i64 Z3)).setCell ⟨Z35, 4, none⟩ (.int .i64 Z4)) := (below_set (below_set (below_set (below_set (below_set HBf.out Z37.out) Z37.out) Z37.out) Z37.out) Z37.out)
  have _ : Aside0 ((((((wg.setCell ⟨Z35, 0, none⟩ (.string Z0)).setCell ⟨Z35, 1, none⟩ (.string Z1)).setCell ⟨Z35, 2, none⟩ (.int .i64 Z2)).setCell ⟨Z35, 3, none⟩ (.int .i64 Z3)).setCell ⟨Z35, 4, none⟩ (.int .i64 Z4)).heap[Z35]? = some (.cells #[.string Z0, .string Z1, .int .i64 Z2, .int .i64 Z3, .int .i64 Z4] 70 (0, 0))) := ⟨bp Z36⟩
  clear Z36 HBf Z38 Z39 Z40 Z41 Z42 Z43 Z44 Z45 Z46 Z47 Z34 Z19 Z20 Z26 Z27
  rename_i Z36
  generalize (((((wg.setCell ⟨Z35, 0, none⟩ (.string Z0)).setCell ⟨Z35, 1, none⟩ (.string Z1)).setCell ⟨Z35, 2, none⟩ (.int .i64 Z2)).setCell ⟨Z35, 3, none⟩ (.int .i64 Z3)).setCell ⟨Z35, 4, none⟩ (.int .i64 Z4)) = Z48 at Z36 hb ⊢
  have _ := ra (Kd.S_below HT.out hb); have _ := ra (Kd.R_below HH.out hb); have _ := bb (bk BKp) hb; have _ := bs hb
  clear HT HH BKp HB HC HCB hb
  rename_i HT HH BKp HB
  obtain ⟨Z38, Z39, Z40, Z41, Z42, Z43, Z44, Z45, Z46, Z47⟩ := zc5 Z36
  go_wp2_with (first | ((with_reducible refine gc 47 rfl ?_); refine gy (some 50) Tryz.func47 (spec_l7Clash.calls _ _ _ _ _ _ _ _ HR.out) ?_; rintro Z49 hb; have _ := ra (Kd.S_below HT.out hb); have _ := ra (Kd.R_below HH.out hb); have _ := bb (bk BKp) hb; have _ := bs hb; clear HT HH BKp HB hb; rename_i HT HH BKp HB))
  go_ret
  exact ⟨re, ⟨_, _, bk BKp, Sn.qS HT, Sn.qR HH, GEp.out⟩, bq⟩
theorem Sn.sl_meet (k p : Nat) (L : List S33) (nm : ByteArray) (B : List S46) (Aw : Option Addr) (cw : Nat) (ws : List ByteArray) (a6 a1 : List Int) (o6 o1 : Bool) (w0 w : World) (hB : Below w0.heap.size w0 w) (hWG : Lb.WG w0) (hS : St 35 w w0.heap.size p L nm B) (hrw : Kd.C Kd.string w Aw ws.length ws) (hcw : ws.length ≤ cw) (h0 : 0 < ws.length) (h6 : spec_l7Numbers.f k (ws.drop 1) 6 = some (a6, o6)) (h1 : spec_l7Numbers.f k (ws.drop 1) 1 = some (a1, o1)) (hW : (rdOf ByteArray.empty ws 0).toList = [109, 101, 101, 116]) (hlen : ws.length = 3) (r : ByteArray) (hhp : spec_s_meet.f k L (rdOf ByteArray.empty ws 1) (rdOf ByteArray.empty ws 2) = some r) :
  Calls Tryz.prog 9 #[.pointer (some ⟨p, 0, none⟩), .slice Aw ws.length cw] w fun e w' => e = .returned (.string r) ∧ St 35 w' w0.heap.size p L nm B ∧ Below w0.heap.size w0 w' := by
 obtain ⟨vT, vB, hBK, hT, hH, hp⟩ := hS
 obtain ⟨A, c, rfl, hlc, hC⟩ := Kd.S_reads hT
 obtain ⟨Ab, cb, rfl, hlb, hCb⟩ := Kd.R_reads hH
 have BKp := ra hBK; have HT := ra hT; have HH := ra hH; have HC := ra hC; have HCB := ra hCb; have HLC := ra hlc; have HLB := ra hlb; have HB := ra hB; have HWG := ra hWG; have GEp := ra hp; have HW := ra hrw; have HLW := ra hcw; have Z0 := ra h6; have Z1 := ra h1; have H0 := ra h0
 obtain ⟨Z2, Z3, _, hsz_, _⟩ := info_parts info9
 have hcut := cut_from (P := Tryz.prog) 27 9 .i64 Tryz.underlying27 Z3 1 hsz_ Aw ws.length cw 1 (by omega) (by omega)
 have htl := Kd.C_drop (m := (1 : Int).toNat) (c := cw) hrw (by have e_ : (1 : Int).toNat = 1 := rfl; omega) hcw
 obtain ⟨Z4, Z5⟩ : ∃ Z4, Z4 = (if cw = (1 : Int).toNat then Aw else (Aw : Option Addr).map (·.add ((1 : Int).toNat * 1))) := ⟨_, rfl⟩
 obtain ⟨Z6, Z7⟩ : ∃ Z6, Z6 = cw - (1 : Int).toNat := ⟨_, rfl⟩
 obtain ⟨tl, htl_⟩ : ∃ tl, tl = ws.drop 1 := ⟨_, rfl⟩
 have hy : tl.length = ws.length - (1 : Int).toNat := by rw [htl_, List.length_drop]; rfl
 replace htl : Kd.C Kd.string w Z4 tl.length tl := by rw [Z5, htl_]; exact htl
 rw [← hy, ← Z5, ← Z7] at hcut
 rw [← htl_] at Z0 Z1
 have HTL := ra htl
 have HTC := ra (show tl.length ≤ Z6 from by rw [hy, Z7]; exact Nat.sub_le_sub_right hcw _)
 clear hBK hT hH hC hCb hlc hlb hB hWG hp h6 h1 htl hy Z5 Z7 htl_
 obtain ⟨fw_tube, fw_box, fw_put, fw_drop, fw_all, fw_with, fw_meet, fw_cut, fw_free⟩ := fs_meet hW
 have fn : ((ws.length : Int) == 3) = true := beq_iff_eq.mpr (by omega)
 have Z8 := ki 0 (ws.length : Int)
 have Z9 : (0 < ws.length) = True := eq_true h0
 obtain ⟨adw, ew, Z10⟩ := Kd.at_string hrw 0 (Int.le_refl _) (by omega); cases ew; replace Z10 := Sn.s0 Z10
 obtain ⟨_, ew, Z11⟩ := Kd.at_string hrw 1 (by omega) (by omega); cases ew; replace Z11 := Sn.s1 (i := 0) Z11
 have Z12 := ki 1 (ws.length : Int)
 obtain ⟨_, ew, Z13⟩ := Kd.at_string hrw 2 (by omega) (by omega); cases ew; replace Z13 := Sn.s1 (i := 1) Z13
 have Z14 := ki 2 (ws.length : Int)
 have HHP := ra hhp; clear hhp
 clear hrw hcw hW hlen
 have Z15 := Tryz.underlying35; have Z16 := Tryz.underlying55; have Z17 := Tryz.underlying33
 go_enter Tryz.func9, Tryz.ntmps9
 go_wp2_with (first | ((with_reducible refine gc 18 rfl ?_); refine gm (some 12) Tryz.func18 (spec_l7Numbers.calls _ _ _ _ _ _ _ _ HTL.out HTC.out Z0.out) ?_; rintro e Z18 ⟨Z19, rfl, Z20, hb⟩; obtain ⟨An, cn, rfl, hln, hCn⟩ := Kd.R_reads Z20; refine ⟨_, rfl, ?_⟩; have HNI := ra hCn; have HLN := ra hln; replace HTL := ra (Kd.C_below HTL.out hb); replace BKp := bb (bk BKp) hb; replace HB := bs hb; replace HT := Sn.bT HT hb; replace HH := Sn.bH HH hb; replace HC := Sn.bC HC hb; replace HCB := Sn.bC HCB hb; replace Z10 := Sn.cb hb Z10; replace Z11 := Sn.cb hb Z11; replace Z13 := Sn.cb hb Z13; clear hb Z20 hCn hln) | ((with_reducible refine gc 18 rfl ?_); refine gm (some 18) Tryz.func18 (spec_l7Numbers.calls _ _ _ _ _ _ _ _ HTL.out HTC.out Z1.out) ?_; rintro e Z21 ⟨Z19, rfl, Z20, hb⟩; obtain ⟨Am, cm, rfl, hlm, hCm⟩ := Kd.R_reads Z20; refine ⟨_, rfl, ?_⟩; have HMI := ra hCm; have HLM := ra hlm; replace HNI := ra (Kd.C_below HNI.out hb); replace BKp := bb (bk BKp) hb; replace HB := bs hb; replace HT := Sn.bT HT hb; replace HH := Sn.bH HH hb; replace HC := Sn.bC HC hb; replace HCB := Sn.bC HCB hb; replace Z10 := Sn.cb hb Z10; replace Z11 := Sn.cb hb Z11; replace Z13 := Sn.cb hb Z13; clear hb Z20 hCm hlm HTL; obtain ⟨Z22, Z23, Z24, Z25, Z26, Z27⟩ := Sn.zc3 BKp))
 have _ := ra (blk_drew BKp.out); have _ := ra (below_drew1 HB.out); have _ := Sn.drT HT; have _ := Sn.drH HH; have _ := Sn.drC HC; have _ := Sn.drC HCB
 clear BKp HB HT HH HC HCB
 rename_i BKp HB HT HH HC HCB
 clear Z22 Z23 Z24 Z25 Z26 Z27
 replace Z11 := Sn.cb (below_drew1 (Below.refl Z21.heap.size Z21)) Z11
 replace Z13 := Sn.cb (below_drew1 (Below.refl Z21.heap.size Z21)) Z13
 refine start_ (n := 9) (S := fun w' => w'.cell? ⟨adw.block, adw.off + 1, none⟩ = some (.string (rdOf ByteArray.empty ws 1)) ∧ w'.cell? ⟨adw.block, adw.off + 2, none⟩ = some (.string (rdOf ByteArray.empty ws 2))) (ds := [7]) #[false, false, false, false, false, false, false, false, false] (by kernel_rfl) rfl rfl ⟨Z11, Z13⟩ (fun hHeld => ?_)
 generalize Z21.drew = wf at BKp HB HT HH HC HCB Z11 Z13 hHeld ⊢
 refine pu 0 129 (bl 9 1) ?_
 refine pu 1 130 (bl 9 3) ?_
 refine pu 2 131 (bl 9 7) ?_
 refine pu 4 133 (bl 9 23) ?_
 refine pu 5 134 (bl 9 55) ?_
 refine tk 3 132 (bl 9 63) ?_ hHeld
 refine tk 6 135 (bl 9 127) ?_ hHeld
 refine last_ (i := 7) (N := some 136) #[true, true, true, true, true, true, true, true, false] rfl rfl (by kernel_rfl) (by decide) (fun K hK => ?_)
 refine goes_ Tryz.func24 (by kernel_rfl) rfl #[.pointer (some ⟨p, 0, none⟩), .string (rdOf ByteArray.empty ws 1), .string (rdOf ByteArray.empty ws 2)] (by rfl) rfl rfl (by simp only [List.map_toArray, List.map_cons, List.map_nil]; rfl) ?_
 with_reducible refine (spec_s_meet.calls k p L nm B (rdOf ByteArray.empty ws 1) (rdOf ByteArray.empty ws 2) r w0 _ HB.out (Sn.mk (bk BKp) (Sn.qS HT) (Sn.qR HH) GEp.out) HHP.out).mono ?_
 rintro e Z28 ⟨rfl, hst, hb⟩
 refine ⟨_, rfl, ?_⟩
 have HST := ra hst
 have _ := ra hb
 clear BKp HB HT HH HC HCB
 rename_i HB
 clear hst hb
 refine hK.out _ _ ?_
 clear hK K
 refine Z.nm 136 ?_
 refine pu 8 4 (bl 9 511) ?_
 refine done_ (by kernel_rfl) ?_
 try go_wp2
 go_ret
 exact ⟨re, HST.out, bq⟩
end Go.Proofs.YtjelgpmhbaiipaaGreatDoor.PA
end
