/- Walks of the session's methods. No condition beside what the Lean functions say. -/
import Derived.Test.YtjelgpmhbaiipaaGreatDoorFZCv2
import Derived.Test.YtjelgpmhbaiipaaGreatDoorFS26
import Derived.Test.YtjelgpmhbaiipaaGreatDoorFG27
import Derived.Test.YtjelgpmhbaiipaaGreatDoorFG25
import Derived.Test.YtjelgpmhbaiipaaGreatDoorFG17
import Derived.Test.YtjelgpmhbaiipaaGreatDoorFS24
import Derived.Test.YtjelgpmhbaiipaaGreatDoorFS20
section
namespace Go.Proofs.YtjelgpmhbaiipaaGreatDoor.PA
open Go.RowKit Go.Proofs.YtjelgpmhbaiipaaGreatDoorW.PrintWords Go.Proofs.YtjelgpmhbaiipaaGreatDoorW.PrintLast Go.Proofs.YtjelgpmhbaiipaaGreatDoorW.PrintMore Go.Proofs.YtjelgpmhbaiipaaGreatDoor.Z
attribute [local go_sem] max2_int min2_int max_two min_two max_three min_three max_four min_four
set_option linter.unusedVariables false
set_option maxHeartbeats 8000000
set_option maxRecDepth 100000
set_option linter.unusedSimpArgs false
theorem Sn.ia_all (k p : Nat) (L : List S33) (nm : ByteArray) (B : List S46) (line : ByteArray) (ws : List ByteArray) (w0 w : World) (hB : Below w0.heap.size w0 w) (hWG : Lb.WG w0) (hS : St 40 w w0.heap.size p L nm B) (hs : Lb.split.f line (⟨#[32]⟩ : ByteArray) = some ws) (h0 : 0 < ws.length) (hn_tube : (rdOf ByteArray.empty ws 0).toList ≠ [116, 117, 98, 101]) (hn_box : (rdOf ByteArray.empty ws 0).toList ≠ [98, 111, 120]) (hn_drop : (rdOf ByteArray.empty ws 0).toList ≠ [100, 114, 111, 112]) (hn_meet : (rdOf ByteArray.empty ws 0).toList ≠ [109, 101, 101, 116]) (hn_cut : (rdOf ByteArray.empty ws 0).toList ≠ [99, 117, 116]) (hl : line.toList = [97, 108, 108]) (cl : List S70) (hal : impl_ProbeAll.f k L = some cl) (r : ByteArray) (hcl : impl_clashes.f k cl = some r) :
  Calls Tryz.prog 11 #[.pointer (some ⟨p, 0, none⟩), .string line] w fun e w' => e = .returned (.string r) ∧ St 40 w' w0.heap.size p L nm B ∧ Below w0.heap.size w0 w' := by
 obtain ⟨A, c, Ab, cb, BKp, HT, HH, HC, HCB, HLC, HLB, GEp⟩ := Sn.op hS
 have HB := ra hB; have HWG := ra hWG; have HS := ra hs
 clear hB hWG hs
 have fw_tube := beq_eq_false_iff_ne.mpr hn_tube
 have fw_box := beq_eq_false_iff_ne.mpr hn_box
 have fw_drop := beq_eq_false_iff_ne.mpr hn_drop
 have fw_meet := beq_eq_false_iff_ne.mpr hn_meet
 have fw_cut := beq_eq_false_iff_ne.mpr hn_cut
 have fl_put : (line.toList == [112, 117, 116]) = false := by rw [hl]; decide
 have fl_all : (line.toList == [97, 108, 108]) = true := by rw [hl]; decide
 have fl_with : (line.toList == [119, 105, 116, 104]) = false := by rw [hl]; decide
 have fl_free : (line.toList == [102, 114, 101, 101]) = false := by rw [hl]; decide
 have Z0 := ki 0 (ws.length : Int)
 have Z1 : (0 < ws.length) = True := eq_true h0
 have H0 := ra h0
 have HAL := ra hal; have HCL := ra hcl; clear hal hcl
 clear hn_tube hn_box hn_drop hn_meet hn_cut hl
 have Z2 := Tryz.underlying40; have Z3 := Tryz.underlying55; have Z4 := Tryz.underlying33
 go_enter Tryz.func11, Tryz.ntmps11
 go_wp2_with (first | ((with_reducible refine gc 10 rfl ?_); refine gm (some 18) Tryz.func10 (Lb.split.calls _ _ _ _ (Lb.wg HWG) HS.out) ?_; rintro e Z5 ⟨Z6, rfl, Z7, hb⟩; obtain ⟨Aw, cw, rfl, hlw, hCw⟩ := Kd.R_reads Z7; refine ⟨_, rfl, ?_⟩; replace BKp := bb (bk BKp) hb; replace HB := bs hb; replace HT := Sn.bT HT hb; replace HH := Sn.bH HH hb; replace HC := Sn.bC HC hb; replace HCB := Sn.bC HCB hb; obtain ⟨adw, ew, Z8⟩ := Kd.at_string hCw 0 (Int.le_refl _) (by have := H0.out; omega); cases ew; replace Z8 := Sn.s0 Z8; have HW := ra hCw; have HLW := ra hlw; clear hb Z7 hCw hlw; obtain ⟨Z9, Z10, Z11, Z12, Z13, Z14⟩ := Sn.zc3 BKp) | ((with_reducible refine gc 33 rfl ?_); refine gm (some 132) Tryz.func33 (impl_ProbeAll.calls _ _ _ _ _ _ (Sn.qC HC) HLC.out HAL.out) ?_; rintro e Z15 ⟨Z16, rfl, Z17, hb⟩; obtain ⟨Ac, cc, rfl, Z18, hCc⟩ := Kd.R_reads Z17; refine ⟨_, rfl, ?_⟩; have HCC := ra hCc; have HLCC := ra Z18; clear Z17 hCc Z18; replace BKp := bb (bk BKp) hb; replace HB := bs hb; replace HT := Sn.bT HT hb; replace HH := Sn.bH HH hb; replace HC := Sn.bC HC hb; replace HCB := Sn.bC HCB hb; clear Z9 Z10 Z11 Z12 Z13 Z14; obtain ⟨Z9, Z10, Z11, Z12, Z13, Z14⟩ := Sn.zc3 BKp; clear hb) | ((with_reducible refine gc 32 rfl ?_); refine gy (some 133) Tryz.func32 (impl_clashes.calls _ _ _ _ _ _ (Lb.wg HWG) (Sn.qC HCC) HLCC.out HCL.out) ?_; rintro Z19 hb; replace BKp := bb (bk BKp) hb; replace HB := bs hb; replace HT := Sn.bT HT hb; replace HH := Sn.bH HH hb; replace HC := Sn.bC HC hb; replace HCB := Sn.bC HCB hb; clear Z9 Z10 Z11 Z12 Z13 Z14; obtain ⟨Z9, Z10, Z11, Z12, Z13, Z14⟩ := Sn.zc3 BKp; clear hb))
 go_ret
 exact ⟨re, ⟨_, _, bk BKp, Sn.qS HT, Sn.qR HH, GEp.out⟩, bq⟩
theorem Sn.ia_with (k p : Nat) (L : List S33) (nm : ByteArray) (B : List S46) (line : ByteArray) (ws : List ByteArray) (w0 w : World) (hB : Below w0.heap.size w0 w) (hWG : Lb.WG w0) (hS : St 40 w w0.heap.size p L nm B) (hs : Lb.split.f line (⟨#[32]⟩ : ByteArray) = some ws) (h0 : 0 < ws.length) (hn_tube : (rdOf ByteArray.empty ws 0).toList ≠ [116, 117, 98, 101]) (hn_box : (rdOf ByteArray.empty ws 0).toList ≠ [98, 111, 120]) (hn_drop : (rdOf ByteArray.empty ws 0).toList ≠ [100, 114, 111, 112]) (hn_meet : (rdOf ByteArray.empty ws 0).toList ≠ [109, 101, 101, 116]) (hn_cut : (rdOf ByteArray.empty ws 0).toList ≠ [99, 117, 116]) (hl : line.toList = [119, 105, 116, 104]) (cl : List S70) (hwi : impl_ProbeWith.f k L nm B = some cl) (r : ByteArray) (hcl : impl_clashes.f k cl = some r) :
  Calls Tryz.prog 11 #[.pointer (some ⟨p, 0, none⟩), .string line] w fun e w' => e = .returned (.string r) ∧ St 40 w' w0.heap.size p L nm B ∧ Below w0.heap.size w0 w' := by
 obtain ⟨A, c, Ab, cb, BKp, HT, HH, HC, HCB, HLC, HLB, GEp⟩ := Sn.op hS
 have HB := ra hB; have HWG := ra hWG; have HS := ra hs
 clear hB hWG hs
 have fw_tube := beq_eq_false_iff_ne.mpr hn_tube
 have fw_box := beq_eq_false_iff_ne.mpr hn_box
 have fw_drop := beq_eq_false_iff_ne.mpr hn_drop
 have fw_meet := beq_eq_false_iff_ne.mpr hn_meet
 have fw_cut := beq_eq_false_iff_ne.mpr hn_cut
 have fl_put : (line.toList == [112, 117, 116]) = false := by rw [hl]; decide
 have fl_all : (line.toList == [97, 108, 108]) = false := by rw [hl]; decide
 have fl_with : (line.toList == [119, 105, 116, 104]) = true := by rw [hl]; decide
 have fl_free : (line.toList == [102, 114, 101, 101]) = false := by rw [hl]; decide
 have Z0 := ki 0 (ws.length : Int)
 have Z1 : (0 < ws.length) = True := eq_true h0
 have H0 := ra h0
 have HWI := ra hwi; have HCL := ra hcl; clear hwi hcl
 clear hn_tube hn_box hn_drop hn_meet hn_cut hl
 have Z2 := Tryz.underlying40; have Z3 := Tryz.underlying55; have Z4 := Tryz.underlying33
 go_enter Tryz.func11, Tryz.ntmps11
 go_wp2_with (first | ((with_reducible refine gc 10 rfl ?_); refine gm (some 18) Tryz.func10 (Lb.split.calls _ _ _ _ (Lb.wg HWG) HS.out) ?_; rintro e Z5 ⟨Z6, rfl, Z7, hb⟩; obtain ⟨Aw, cw, rfl, hlw, hCw⟩ := Kd.R_reads Z7; refine ⟨_, rfl, ?_⟩; replace BKp := bb (bk BKp) hb; replace HB := bs hb; replace HT := Sn.bT HT hb; replace HH := Sn.bH HH hb; replace HC := Sn.bC HC hb; replace HCB := Sn.bC HCB hb; obtain ⟨adw, ew, Z8⟩ := Kd.at_string hCw 0 (Int.le_refl _) (by have := H0.out; omega); cases ew; replace Z8 := Sn.s0 Z8; have HW := ra hCw; have HLW := ra hlw; clear hb Z7 hCw hlw; obtain ⟨Z9, Z10, Z11, Z12, Z13, Z14⟩ := Sn.zc3 BKp))
 have _ := ra (blk_drew BKp.out); have _ := ra (below_drew1 HB.out); have _ := Sn.drT HT; have _ := Sn.drH HH; have _ := Sn.drC HC; have _ := Sn.drC HCB
 clear BKp HB HT HH HC HCB
 rename_i BKp HB HT HH HC HCB
 clear Z9 Z10 Z11 Z12 Z13 Z14
 refine start_ (n := 11) (S := fun w' => w'.cell? ⟨p, 0, none⟩ = some (.slice A L.length c) ∧ w'.cell? ⟨p, 1, none⟩ = some (.string nm) ∧ w'.cell? ⟨p, 2, none⟩ = some (.slice Ab B.length cb)) (ds := []) (bl 11 0) (by kernel_rfl) rfl rfl ⟨(blk_cell BKp.out 0).trans rfl, (blk_cell BKp.out 1).trans rfl, (blk_cell BKp.out 2).trans rfl⟩ (fun hHeld => ?_)
 generalize Z5.drew = wf at BKp HB HT HH HC HCB hHeld ⊢
 refine pu 0 137 (bl 11 1) ?_
 refine pu 1 138 (bl 11 3) ?_
 refine pu 2 139 (bl 11 7) ?_
 refine pu 4 141 (bl 11 23) ?_
 refine pu 5 142 (bl 11 55) ?_
 refine pu 6 143 (bl 11 119) ?_
 refine tk 3 140 (bl 11 127) ?_ hHeld
 refine tk 7 144 (bl 11 255) ?_ hHeld
 refine oe 8 145 (bl 11 511) (fun K hK => ?_)
 refine goes_ Tryz.func34 (by kernel_rfl) rfl #[.slice A L.length c, .agg #[.string nm, .slice Ab B.length cb]] (by rfl) rfl rfl (by simp only [List.map_toArray, List.map_cons, List.map_nil]; rfl) ?_
 with_reducible refine (impl_ProbeWith.calls k A c L nm Ab cb B cl _ HC.out HLC.out HCB.out HLB.out HWI.out).mono ?_
 rintro e Z15 ⟨Z16, rfl, Z17, hb⟩
 obtain ⟨Ac, cc, rfl, Z18, hCc⟩ := Kd.R_reads Z17
 refine ⟨_, rfl, ?_⟩
 have HCC := ra hCc
 have HLCC := ra Z18
 clear Z17 hCc Z18
 have _ := bb (bk BKp) hb
 have _ := bs hb
 have _ := Sn.bT HT hb
 have _ := Sn.bH HH hb
 have _ := Sn.bC HC hb
 have _ := Sn.bC HCB hb
 clear BKp HB HT HH HC HCB
 rename_i BKp HB HT HH HC HCB
 clear hb
 refine hK.out _ _ ⟨(blk_cell BKp.out 0).trans rfl, (blk_cell BKp.out 1).trans rfl, (blk_cell BKp.out 2).trans rfl⟩ (fun hHeld => ?_)
 clear hK K
 refine Z.nm 145 ?_
 refine oe 9 146 (bl 11 1023) (fun K hK => ?_)
 refine goes_ Tryz.func32 (by kernel_rfl) rfl #[.slice Ac cl.length cc] (by rfl) rfl rfl (by simp only [List.map_toArray, List.map_cons, List.map_nil]; rfl) ?_
 with_reducible refine (impl_clashes.calls k Ac cc cl r _ (Lb.wg HWG) HCC.out HLCC.out HCL.out).mono ?_
 rintro e Z19 ⟨rfl, hb⟩
 refine ⟨_, rfl, ?_⟩
 have _ := bb (bk BKp) hb
 have _ := bs hb
 have _ := Sn.bT HT hb
 have _ := Sn.bH HH hb
 have _ := Sn.bC HC hb
 have _ := Sn.bC HCB hb
 clear BKp HB HT HH HC HCB
 rename_i BKp HB HT HH HC HCB
 clear hb
 refine hK.out _ _ ⟨(blk_cell BKp.out 0).trans rfl, (blk_cell BKp.out 1).trans rfl, (blk_cell BKp.out 2).trans rfl⟩ (fun hHeld => ?_)
 clear hK K
 refine Z.nm 146 ?_
 refine pu 10 4 (bl 11 2047) ?_
 refine done_ (by kernel_rfl) ?_
 try go_wp2
 go_ret
 exact ⟨re, ⟨_, _, bk BKp, Sn.qS HT, Sn.qR HH, GEp.out⟩, bq⟩
theorem Sn.ia_free_true (k p : Nat) (L : List S33) (nm : ByteArray) (B : List S46) (line : ByteArray) (ws : List ByteArray) (w0 w : World) (hB : Below w0.heap.size w0 w) (hWG : Lb.WG w0) (hS : St 40 w w0.heap.size p L nm B) (hs : Lb.split.f line (⟨#[32]⟩ : ByteArray) = some ws) (h0 : 0 < ws.length) (hn_tube : (rdOf ByteArray.empty ws 0).toList ≠ [116, 117, 98, 101]) (hn_box : (rdOf ByteArray.empty ws 0).toList ≠ [98, 111, 120]) (hn_drop : (rdOf ByteArray.empty ws 0).toList ≠ [100, 114, 111, 112]) (hn_meet : (rdOf ByteArray.empty ws 0).toList ≠ [109, 101, 101, 116]) (hn_cut : (rdOf ByteArray.empty ws 0).toList ≠ [99, 117, 116]) (hl : line.toList = [102, 114, 101, 101]) (hfr : impl_ProbeFree.f k L nm B = some true) :
  Calls Tryz.prog 11 #[.pointer (some ⟨p, 0, none⟩), .string line] w fun e w' => e = .returned (.string (⟨#[121, 101, 115]⟩ : ByteArray)) ∧ St 40 w' w0.heap.size p L nm B ∧ Below w0.heap.size w0 w' := by
 obtain ⟨A, c, Ab, cb, BKp, HT, HH, HC, HCB, HLC, HLB, GEp⟩ := Sn.op hS
 have HB := ra hB; have HWG := ra hWG; have HS := ra hs
 clear hB hWG hs
 have fw_tube := beq_eq_false_iff_ne.mpr hn_tube
 have fw_box := beq_eq_false_iff_ne.mpr hn_box
 have fw_drop := beq_eq_false_iff_ne.mpr hn_drop
 have fw_meet := beq_eq_false_iff_ne.mpr hn_meet
 have fw_cut := beq_eq_false_iff_ne.mpr hn_cut
 have fl_put : (line.toList == [112, 117, 116]) = false := by rw [hl]; decide
 have fl_all : (line.toList == [97, 108, 108]) = false := by rw [hl]; decide
 have fl_with : (line.toList == [119, 105, 116, 104]) = false := by rw [hl]; decide
 have fl_free : (line.toList == [102, 114, 101, 101]) = true := by rw [hl]; decide
 have Z0 := ki 0 (ws.length : Int)
 have Z1 : (0 < ws.length) = True := eq_true h0
 have H0 := ra h0
 have HFR := ra hfr; clear hfr
 clear hn_tube hn_box hn_drop hn_meet hn_cut hl
 have Z2 := Tryz.underlying40; have Z3 := Tryz.underlying55; have Z4 := Tryz.underlying33
 go_enter Tryz.func11, Tryz.ntmps11
 go_wp2_with (first | ((with_reducible refine gc 10 rfl ?_); refine gm (some 18) Tryz.func10 (Lb.split.calls _ _ _ _ (Lb.wg HWG) HS.out) ?_; rintro e Z5 ⟨Z6, rfl, Z7, hb⟩; obtain ⟨Aw, cw, rfl, hlw, hCw⟩ := Kd.R_reads Z7; refine ⟨_, rfl, ?_⟩; replace BKp := bb (bk BKp) hb; replace HB := bs hb; replace HT := Sn.bT HT hb; replace HH := Sn.bH HH hb; replace HC := Sn.bC HC hb; replace HCB := Sn.bC HCB hb; obtain ⟨adw, ew, Z8⟩ := Kd.at_string hCw 0 (Int.le_refl _) (by have := H0.out; omega); cases ew; replace Z8 := Sn.s0 Z8; have HW := ra hCw; have HLW := ra hlw; clear hb Z7 hCw hlw; obtain ⟨Z9, Z10, Z11, Z12, Z13, Z14⟩ := Sn.zc3 BKp))
 have _ := ra (blk_drew BKp.out); have _ := ra (below_drew1 HB.out); have _ := Sn.drT HT; have _ := Sn.drH HH; have _ := Sn.drC HC; have _ := Sn.drC HCB
 clear BKp HB HT HH HC HCB
 rename_i BKp HB HT HH HC HCB
 clear Z9 Z10 Z11 Z12 Z13 Z14
 refine start_ (n := 9) (S := fun w' => w'.cell? ⟨p, 0, none⟩ = some (.slice A L.length c) ∧ w'.cell? ⟨p, 1, none⟩ = some (.string nm) ∧ w'.cell? ⟨p, 2, none⟩ = some (.slice Ab B.length cb)) (ds := []) (bl 9 0) (by kernel_rfl) rfl rfl ⟨(blk_cell BKp.out 0).trans rfl, (blk_cell BKp.out 1).trans rfl, (blk_cell BKp.out 2).trans rfl⟩ (fun hHeld => ?_)
 generalize Z5.drew = wf at BKp HB HT HH HC HCB hHeld ⊢
 refine pu 0 150 (bl 9 1) ?_
 refine pu 1 151 (bl 9 3) ?_
 refine pu 2 152 (bl 9 7) ?_
 refine pu 4 154 (bl 9 23) ?_
 refine pu 5 155 (bl 9 55) ?_
 refine pu 6 156 (bl 9 119) ?_
 refine tk 3 153 (bl 9 127) ?_ hHeld
 refine tk 7 157 (bl 9 255) ?_ hHeld
 refine oe 8 158 (bl 9 511) (fun K hK => ?_)
 refine goes_ Tryz.func35 (by kernel_rfl) rfl #[.slice A L.length c, .agg #[.string nm, .slice Ab B.length cb]] (by rfl) rfl rfl (by simp only [List.map_toArray, List.map_cons, List.map_nil]; rfl) ?_
 with_reducible refine (impl_ProbeFree.calls k A c L nm Ab cb B true _ HC.out HLC.out HCB.out HLB.out HFR.out).mono ?_
 rintro e Z15 ⟨rfl, hb⟩
 refine ⟨_, rfl, ?_⟩
 have _ := bb (bk BKp) hb
 have _ := bs hb
 have _ := Sn.bT HT hb
 have _ := Sn.bH HH hb
 have _ := Sn.bC HC hb
 have _ := Sn.bC HCB hb
 clear BKp HB HT HH HC HCB
 rename_i BKp HB HT HH HC HCB
 clear hb
 refine hK.out _ _ ⟨(blk_cell BKp.out 0).trans rfl, (blk_cell BKp.out 1).trans rfl, (blk_cell BKp.out 2).trans rfl⟩ (fun hHeld => ?_)
 clear hK K
 refine Z.nm 158 ?_
 refine done_ (by kernel_rfl) ?_
 try go_wp2
 go_ret
 exact ⟨re, ⟨_, _, bk BKp, Sn.qS HT, Sn.qR HH, GEp.out⟩, bq⟩
theorem Sn.ia_free_false (k p : Nat) (L : List S33) (nm : ByteArray) (B : List S46) (line : ByteArray) (ws : List ByteArray) (w0 w : World) (hB : Below w0.heap.size w0 w) (hWG : Lb.WG w0) (hS : St 40 w w0.heap.size p L nm B) (hs : Lb.split.f line (⟨#[32]⟩ : ByteArray) = some ws) (h0 : 0 < ws.length) (hn_tube : (rdOf ByteArray.empty ws 0).toList ≠ [116, 117, 98, 101]) (hn_box : (rdOf ByteArray.empty ws 0).toList ≠ [98, 111, 120]) (hn_drop : (rdOf ByteArray.empty ws 0).toList ≠ [100, 114, 111, 112]) (hn_meet : (rdOf ByteArray.empty ws 0).toList ≠ [109, 101, 101, 116]) (hn_cut : (rdOf ByteArray.empty ws 0).toList ≠ [99, 117, 116]) (hl : line.toList = [102, 114, 101, 101]) (hfr : impl_ProbeFree.f k L nm B = some false) :
  Calls Tryz.prog 11 #[.pointer (some ⟨p, 0, none⟩), .string line] w fun e w' => e = .returned (.string (⟨#[110, 111]⟩ : ByteArray)) ∧ St 40 w' w0.heap.size p L nm B ∧ Below w0.heap.size w0 w' := by
 obtain ⟨A, c, Ab, cb, BKp, HT, HH, HC, HCB, HLC, HLB, GEp⟩ := Sn.op hS
 have HB := ra hB; have HWG := ra hWG; have HS := ra hs
 clear hB hWG hs
 have fw_tube := beq_eq_false_iff_ne.mpr hn_tube
 have fw_box := beq_eq_false_iff_ne.mpr hn_box
 have fw_drop := beq_eq_false_iff_ne.mpr hn_drop
 have fw_meet := beq_eq_false_iff_ne.mpr hn_meet
 have fw_cut := beq_eq_false_iff_ne.mpr hn_cut
 have fl_put : (line.toList == [112, 117, 116]) = false := by rw [hl]; decide
 have fl_all : (line.toList == [97, 108, 108]) = false := by rw [hl]; decide
 have fl_with : (line.toList == [119, 105, 116, 104]) = false := by rw [hl]; decide
 have fl_free : (line.toList == [102, 114, 101, 101]) = true := by rw [hl]; decide
 have Z0 := ki 0 (ws.length : Int)
 have Z1 : (0 < ws.length) = True := eq_true h0
 have H0 := ra h0
 have HFR := ra hfr; clear hfr
 clear hn_tube hn_box hn_drop hn_meet hn_cut hl
 have Z2 := Tryz.underlying40; have Z3 := Tryz.underlying55; have Z4 := Tryz.underlying33
 go_enter Tryz.func11, Tryz.ntmps11
 go_wp2_with (first | ((with_reducible refine gc 10 rfl ?_); refine gm (some 18) Tryz.func10 (Lb.split.calls _ _ _ _ (Lb.wg HWG) HS.out) ?_; rintro e Z5 ⟨Z6, rfl, Z7, hb⟩; obtain ⟨Aw, cw, rfl, hlw, hCw⟩ := Kd.R_reads Z7; refine ⟨_, rfl, ?_⟩; replace BKp := bb (bk BKp) hb; replace HB := bs hb; replace HT := Sn.bT HT hb; replace HH := Sn.bH HH hb; replace HC := Sn.bC HC hb; replace HCB := Sn.bC HCB hb; obtain ⟨adw, ew, Z8⟩ := Kd.at_string hCw 0 (Int.le_refl _) (by have := H0.out; omega); cases ew; replace Z8 := Sn.s0 Z8; have HW := ra hCw; have HLW := ra hlw; clear hb Z7 hCw hlw; obtain ⟨Z9, Z10, Z11, Z12, Z13, Z14⟩ := Sn.zc3 BKp))
 have _ := ra (blk_drew BKp.out); have _ := ra (below_drew1 HB.out); have _ := Sn.drT HT; have _ := Sn.drH HH; have _ := Sn.drC HC; have _ := Sn.drC HCB
 clear BKp HB HT HH HC HCB
 rename_i BKp HB HT HH HC HCB
 clear Z9 Z10 Z11 Z12 Z13 Z14
 refine start_ (n := 9) (S := fun w' => w'.cell? ⟨p, 0, none⟩ = some (.slice A L.length c) ∧ w'.cell? ⟨p, 1, none⟩ = some (.string nm) ∧ w'.cell? ⟨p, 2, none⟩ = some (.slice Ab B.length cb)) (ds := []) (bl 9 0) (by kernel_rfl) rfl rfl ⟨(blk_cell BKp.out 0).trans rfl, (blk_cell BKp.out 1).trans rfl, (blk_cell BKp.out 2).trans rfl⟩ (fun hHeld => ?_)
 generalize Z5.drew = wf at BKp HB HT HH HC HCB hHeld ⊢
 refine pu 0 150 (bl 9 1) ?_
 refine pu 1 151 (bl 9 3) ?_
 refine pu 2 152 (bl 9 7) ?_
 refine pu 4 154 (bl 9 23) ?_
 refine pu 5 155 (bl 9 55) ?_
 refine pu 6 156 (bl 9 119) ?_
 refine tk 3 153 (bl 9 127) ?_ hHeld
 refine tk 7 157 (bl 9 255) ?_ hHeld
 refine oe 8 158 (bl 9 511) (fun K hK => ?_)
 refine goes_ Tryz.func35 (by kernel_rfl) rfl #[.slice A L.length c, .agg #[.string nm, .slice Ab B.length cb]] (by rfl) rfl rfl (by simp only [List.map_toArray, List.map_cons, List.map_nil]; rfl) ?_
 with_reducible refine (impl_ProbeFree.calls k A c L nm Ab cb B false _ HC.out HLC.out HCB.out HLB.out HFR.out).mono ?_
 rintro e Z15 ⟨rfl, hb⟩
 refine ⟨_, rfl, ?_⟩
 have _ := bb (bk BKp) hb
 have _ := bs hb
 have _ := Sn.bT HT hb
 have _ := Sn.bH HH hb
 have _ := Sn.bC HC hb
 have _ := Sn.bC HCB hb
 clear BKp HB HT HH HC HCB
 rename_i BKp HB HT HH HC HCB
 clear hb
 refine hK.out _ _ ⟨(blk_cell BKp.out 0).trans rfl, (blk_cell BKp.out 1).trans rfl, (blk_cell BKp.out 2).trans rfl⟩ (fun hHeld => ?_)
 clear hK K
 refine Z.nm 158 ?_
 refine done_ (by kernel_rfl) ?_
 try go_wp2
 go_ret
 exact ⟨re, ⟨_, _, bk BKp, Sn.qS HT, Sn.qR HH, GEp.out⟩, bq⟩
theorem Sn.tubeX {p : Nat} {L : List S33} {nm : ByteArray} {B : List S46} {n : ByteArray} {base : Nat} {w : World} {an : ByteArray} {aB : List S46} {ok : Bool} (hS : St 40 w base p L nm B) (h : impl_s_tube.f L n = (an, aB, ok)) :
  Calls Tryz.prog 36 #[.pointer (some ⟨p, 0, none⟩), .string n] w fun e w' => ∃ A c, e = .returned (.tuple #[.agg #[.string an, .slice A aB.length c], .bool ok]) ∧ Kd.C k46 w' A aB.length aB ∧ aB.length ≤ c ∧ Below w.heap.size w w' := by
 have := impl_s_tube.calls p L nm B n base w hS
 rw [h] at this
 exact this
theorem Sn.ia_meetNone1 (k p : Nat) (L : List S33) (nm : ByteArray) (B : List S46) (line : ByteArray) (ws : List ByteArray) (w0 w : World) (hB : Below w0.heap.size w0 w) (hWG : Lb.WG w0) (hS : St 40 w w0.heap.size p L nm B) (hs : Lb.split.f line (⟨#[32]⟩ : ByteArray) = some ws) (h0 : 0 < ws.length) (hW : (rdOf ByteArray.empty ws 0).toList = [109, 101, 101, 116]) (hlen : ws.length = 3) (hl_put : line.toList ≠ [112, 117, 116]) (hl_all : line.toList ≠ [97, 108, 108]) (hl_with : line.toList ≠ [119, 105, 116, 104]) (hl_free : line.toList ≠ [102, 114, 101, 101]) (an bn_ : ByteArray) (aB bB : List S46) (ha : impl_s_tube.f L (rdOf ByteArray.empty ws 1) = (an, aB, false)) (hb_ : impl_s_tube.f L (rdOf ByteArray.empty ws 2) = (bn_, bB, true)) :
  Calls Tryz.prog 11 #[.pointer (some ⟨p, 0, none⟩), .string line] w fun e w' => e = .returned (.string (⟨#[110, 111, 110, 101]⟩ : ByteArray)) ∧ St 40 w' w0.heap.size p L nm B ∧ Below w0.heap.size w0 w' := by
 obtain ⟨A, c, Ab, cb, BKp, HT, HH, HC, HCB, HLC, HLB, GEp⟩ := Sn.op hS
 have HB := ra hB; have HWG := ra hWG; have HS := ra hs
 clear hB hWG hs
 obtain ⟨fw_tube, fw_box, fw_drop, fw_meet, fw_cut⟩ := fi_meet hW
 have fl_put := beq_eq_false_iff_ne.mpr hl_put
 have fl_all := beq_eq_false_iff_ne.mpr hl_all
 have fl_with := beq_eq_false_iff_ne.mpr hl_with
 have fl_free := beq_eq_false_iff_ne.mpr hl_free
 have fn : ((ws.length : Int) == 3) = true := beq_iff_eq.mpr (by omega)
 have Z0 := ki 0 (ws.length : Int)
 have Z1 : (0 < ws.length) = True := eq_true h0
 have H0 := ra h0
 have HN := ra hlen; have HA := ra ha; have HB_ := ra hb_; clear ha hb_
 have Z2 := ki 1 (ws.length : Int)
 have Z3 := ki 2 (ws.length : Int)
 clear hW hlen hl_put hl_all hl_with hl_free
 have Z4 := Tryz.underlying40; have Z5 := Tryz.underlying55; have Z6 := Tryz.underlying33
 go_enter Tryz.func11, Tryz.ntmps11
 go_wp2_with (first | ((with_reducible refine gc 10 rfl ?_); refine gm (some 18) Tryz.func10 (Lb.split.calls _ _ _ _ (Lb.wg HWG) HS.out) ?_; rintro e Z7 ⟨Z8, rfl, Z9, hb⟩; obtain ⟨Aw, cw, rfl, hlw, hCw⟩ := Kd.R_reads Z9; refine ⟨_, rfl, ?_⟩; replace BKp := bb (bk BKp) hb; replace HB := bs hb; replace HT := Sn.bT HT hb; replace HH := Sn.bH HH hb; replace HC := Sn.bC HC hb; replace HCB := Sn.bC HCB hb; obtain ⟨adw, ew, Z10⟩ := Kd.at_string hCw 0 (Int.le_refl _) (by have := H0.out; omega); cases ew; replace Z10 := Sn.s0 Z10; obtain ⟨_, ew, Z11⟩ := Kd.at_string hCw 1 (by omega) (by have := HN.out; omega); cases ew; replace Z11 := Sn.s1 (i := 0) Z11; obtain ⟨_, ew, Z12⟩ := Kd.at_string hCw 2 (by omega) (by have := HN.out; omega); cases ew; replace Z12 := Sn.s1 (i := 1) Z12; have HW := ra hCw; have HLW := ra hlw; clear hb Z9 hCw hlw; obtain ⟨Z13, Z14, Z15, Z16, Z17, Z18⟩ := Sn.zc3 BKp) | ((with_reducible refine gc 36 rfl ?_); refine gm (some 174) Tryz.func36 (Sn.tubeX (Sn.mk (bk BKp) (Sn.qS HT) (Sn.qR HH) GEp.out) HA.out) ?_; rintro e Z19 ⟨Aa, ca, rfl, hca, hla, hb⟩; refine ⟨_, rfl, ?_⟩; replace Z12 := Sn.cb hb Z12; have HCA := ra hca; have HLA := ra hla; replace BKp := bb (bk BKp) hb; replace HB := bs hb; replace HT := Sn.bT HT hb; replace HH := Sn.bH HH hb; replace HC := Sn.bC HC hb; replace HCB := Sn.bC HCB hb; clear Z13 Z14 Z15 Z16 Z17 Z18; obtain ⟨Z13, Z14, Z15, Z16, Z17, Z18⟩ := Sn.zc3 BKp; clear hb hca hla Z10 Z11 HW) | ((with_reducible refine gd 9 rfl ?_); refine be 9 #[.string (⟨#[]⟩ : ByteArray), .slice none 0 0] 33 ?_; intro Z20 hg Z21 hbox hb; have HG := ra hg; have HBD := ra hb; have BKX := ra hbox; clear hg hbox hb; obtain ⟨Z22, Z23, Z24, Z25⟩ := zc2 BKX) | ((with_reducible refine gate_store (t := 33) (p := 9) rfl ?_); refine store_event (t := 33) (p := 9) (v := ?vo_9) (w1 := ((Z21.setCell ⟨Z20, 0, none⟩ (.string an)).setCell ⟨Z20, 1, none⟩ (.slice Aa aB.length ca))) ?hg ?ho ?hn ?hr ?_; (case ho => rfl); (case hg => rfl); (case hn => rfl); (case hr => first | (go_simp; done) | (go_simp; rfl)); intro Z26 hw; have hb : Below Z19.heap.size Z19 Z26 := (by rw [hw]; exact (below_set (below_set HBD.out (Nat.le_of_eq HG.out.symm)) (Nat.le_of_eq HG.out.symm))); have Z27 : Aside0 (Z26.heap[Z20]? = some (.cells #[.string an, .slice Aa aB.length ca] 33 (0, 0))) := ⟨by rw [hw]; exact bp BKX⟩; clear hw BKX HBD HG Z24 Z22 Z25 Z23; replace Z12 := Sn.cb hb Z12; replace BKp := bb (bk BKp) hb; replace HB := bs hb; replace HT := Sn.bT HT hb; replace HH := Sn.bH HH hb; replace HC := Sn.bC HC hb; replace HCB := Sn.bC HCB hb; replace HCA := Sn.bC HCA hb; clear Z13 Z14 Z15 Z16 Z17 Z18; obtain ⟨Z13, Z14, Z15, Z16, Z17, Z18⟩ := Sn.zc3 BKp; clear hb) | ((with_reducible refine gc 36 rfl ?_); refine gm (some 182) Tryz.func36 (Sn.tubeX (Sn.mk (bk BKp) (Sn.qS HT) (Sn.qR HH) GEp.out) HB_.out) ?_; rintro e Z28 ⟨Ax, cx, rfl, hcx, hlx, hb⟩; refine ⟨_, rfl, ?_⟩; have HCX := ra hcx; have HLX := ra hlx; replace BKp := bb (bk BKp) hb; replace HB := bs hb; replace HT := Sn.bT HT hb; replace HH := Sn.bH HH hb; replace HC := Sn.bC HC hb; replace HCB := Sn.bC HCB hb; replace HCA := Sn.bC HCA hb; replace Z27 := bb (bk Z27) hb; clear Z13 Z14 Z15 Z16 Z17 Z18; obtain ⟨Z13, Z14, Z15, Z16, Z17, Z18⟩ := Sn.zc3 BKp; clear hb hcx hlx Z12) | ((with_reducible refine gd 11 rfl ?_); refine be 11 #[.string (⟨#[]⟩ : ByteArray), .slice none 0 0] 33 ?_; intro Z29 hg Z30 hbox hb; have HG := ra hg; have HBD := ra hb; have BKX := ra hbox; clear hg hbox hb; obtain ⟨Z22, Z23, Z24, Z25⟩ := zc2 BKX) | ((with_reducible refine gate_store (t := 33) (p := 11) rfl ?_); refine store_event (t := 33) (p := 11) (v := ?vo_11) (w1 := ((Z30.setCell ⟨Z29, 0, none⟩ (.string bn_)).setCell ⟨Z29, 1, none⟩ (.slice Ax bB.length cx))) ?hg ?ho ?hn ?hr ?_; (case ho => rfl); (case hg => rfl); (case hn => rfl); (case hr => first | (go_simp; done) | (go_simp; rfl)); intro Z31 hw; have hb : Below Z28.heap.size Z28 Z31 := (by rw [hw]; exact (below_set (below_set HBD.out (Nat.le_of_eq HG.out.symm)) (Nat.le_of_eq HG.out.symm))); have Z32 : Aside0 (Z31.heap[Z29]? = some (.cells #[.string bn_, .slice Ax bB.length cx] 33 (0, 0))) := ⟨by rw [hw]; exact bp BKX⟩; clear hw BKX HBD HG Z24 Z22 Z25 Z23; replace BKp := bb (bk BKp) hb; replace HB := bs hb; replace HT := Sn.bT HT hb; replace HH := Sn.bH HH hb; replace HC := Sn.bC HC hb; replace HCB := Sn.bC HCB hb; replace HCA := Sn.bC HCA hb; replace HCX := Sn.bC HCX hb; replace Z27 := bb (bk Z27) hb; clear Z13 Z14 Z15 Z16 Z17 Z18; obtain ⟨Z13, Z14, Z15, Z16, Z17, Z18⟩ := Sn.zc3 BKp; clear hb; obtain ⟨Z33, Z34, Z35, Z36⟩ := zc2 Z27; obtain ⟨Z37, Z38, Z39, Z40⟩ := zc2 Z32))
 go_ret
 exact ⟨re, ⟨_, _, bk BKp, Sn.qS HT, Sn.qR HH, GEp.out⟩, bq⟩
theorem Sn.ia_meetNone2 (k p : Nat) (L : List S33) (nm : ByteArray) (B : List S46) (line : ByteArray) (ws : List ByteArray) (w0 w : World) (hB : Below w0.heap.size w0 w) (hWG : Lb.WG w0) (hS : St 40 w w0.heap.size p L nm B) (hs : Lb.split.f line (⟨#[32]⟩ : ByteArray) = some ws) (h0 : 0 < ws.length) (hW : (rdOf ByteArray.empty ws 0).toList = [109, 101, 101, 116]) (hlen : ws.length = 3) (hl_put : line.toList ≠ [112, 117, 116]) (hl_all : line.toList ≠ [97, 108, 108]) (hl_with : line.toList ≠ [119, 105, 116, 104]) (hl_free : line.toList ≠ [102, 114, 101, 101]) (an bn_ : ByteArray) (aB bB : List S46) (ha : impl_s_tube.f L (rdOf ByteArray.empty ws 1) = (an, aB, true)) (hb_ : impl_s_tube.f L (rdOf ByteArray.empty ws 2) = (bn_, bB, false)) :
  Calls Tryz.prog 11 #[.pointer (some ⟨p, 0, none⟩), .string line] w fun e w' => e = .returned (.string (⟨#[110, 111, 110, 101]⟩ : ByteArray)) ∧ St 40 w' w0.heap.size p L nm B ∧ Below w0.heap.size w0 w' := by
 obtain ⟨A, c, Ab, cb, BKp, HT, HH, HC, HCB, HLC, HLB, GEp⟩ := Sn.op hS
 have HB := ra hB; have HWG := ra hWG; have HS := ra hs
 clear hB hWG hs
 obtain ⟨fw_tube, fw_box, fw_drop, fw_meet, fw_cut⟩ := fi_meet hW
 have fl_put := beq_eq_false_iff_ne.mpr hl_put
 have fl_all := beq_eq_false_iff_ne.mpr hl_all
 have fl_with := beq_eq_false_iff_ne.mpr hl_with
 have fl_free := beq_eq_false_iff_ne.mpr hl_free
 have fn : ((ws.length : Int) == 3) = true := beq_iff_eq.mpr (by omega)
 have Z0 := ki 0 (ws.length : Int)
 have Z1 : (0 < ws.length) = True := eq_true h0
 have H0 := ra h0
 have HN := ra hlen; have HA := ra ha; have HB_ := ra hb_; clear ha hb_
 have Z2 := ki 1 (ws.length : Int)
 have Z3 := ki 2 (ws.length : Int)
 clear hW hlen hl_put hl_all hl_with hl_free
 have Z4 := Tryz.underlying40; have Z5 := Tryz.underlying55; have Z6 := Tryz.underlying33
 go_enter Tryz.func11, Tryz.ntmps11
 go_wp2_with (first | ((with_reducible refine gc 10 rfl ?_); refine gm (some 18) Tryz.func10 (Lb.split.calls _ _ _ _ (Lb.wg HWG) HS.out) ?_; rintro e Z7 ⟨Z8, rfl, Z9, hb⟩; obtain ⟨Aw, cw, rfl, hlw, hCw⟩ := Kd.R_reads Z9; refine ⟨_, rfl, ?_⟩; replace BKp := bb (bk BKp) hb; replace HB := bs hb; replace HT := Sn.bT HT hb; replace HH := Sn.bH HH hb; replace HC := Sn.bC HC hb; replace HCB := Sn.bC HCB hb; obtain ⟨adw, ew, Z10⟩ := Kd.at_string hCw 0 (Int.le_refl _) (by have := H0.out; omega); cases ew; replace Z10 := Sn.s0 Z10; obtain ⟨_, ew, Z11⟩ := Kd.at_string hCw 1 (by omega) (by have := HN.out; omega); cases ew; replace Z11 := Sn.s1 (i := 0) Z11; obtain ⟨_, ew, Z12⟩ := Kd.at_string hCw 2 (by omega) (by have := HN.out; omega); cases ew; replace Z12 := Sn.s1 (i := 1) Z12; have HW := ra hCw; have HLW := ra hlw; clear hb Z9 hCw hlw; obtain ⟨Z13, Z14, Z15, Z16, Z17, Z18⟩ := Sn.zc3 BKp) | ((with_reducible refine gc 36 rfl ?_); refine gm (some 174) Tryz.func36 (Sn.tubeX (Sn.mk (bk BKp) (Sn.qS HT) (Sn.qR HH) GEp.out) HA.out) ?_; rintro e Z19 ⟨Aa, ca, rfl, hca, hla, hb⟩; refine ⟨_, rfl, ?_⟩; replace Z12 := Sn.cb hb Z12; have HCA := ra hca; have HLA := ra hla; replace BKp := bb (bk BKp) hb; replace HB := bs hb; replace HT := Sn.bT HT hb; replace HH := Sn.bH HH hb; replace HC := Sn.bC HC hb; replace HCB := Sn.bC HCB hb; clear Z13 Z14 Z15 Z16 Z17 Z18; obtain ⟨Z13, Z14, Z15, Z16, Z17, Z18⟩ := Sn.zc3 BKp; clear hb hca hla Z10 Z11 HW) | ((with_reducible refine gd 9 rfl ?_); refine be 9 #[.string (⟨#[]⟩ : ByteArray), .slice none 0 0] 33 ?_; intro Z20 hg Z21 hbox hb; have HG := ra hg; have HBD := ra hb; have BKX := ra hbox; clear hg hbox hb; obtain ⟨Z22, Z23, Z24, Z25⟩ := zc2 BKX) | ((with_reducible refine gate_store (t := 33) (p := 9) rfl ?_); refine store_event (t := 33) (p := 9) (v := ?vo_9) (w1 := ((Z21.setCell ⟨Z20, 0, none⟩ (.string an)).setCell ⟨Z20, 1, none⟩ (.slice Aa aB.length ca))) ?hg ?ho ?hn ?hr ?_; (case ho => rfl); (case hg => rfl); (case hn => rfl); (case hr => first | (go_simp; done) | (go_simp; rfl)); intro Z26 hw; have hb : Below Z19.heap.size Z19 Z26 := (by rw [hw]; exact (below_set (below_set HBD.out (Nat.le_of_eq HG.out.symm)) (Nat.le_of_eq HG.out.symm))); have Z27 : Aside0 (Z26.heap[Z20]? = some (.cells #[.string an, .slice Aa aB.length ca] 33 (0, 0))) := ⟨by rw [hw]; exact bp BKX⟩; clear hw BKX HBD HG Z24 Z22 Z25 Z23; replace Z12 := Sn.cb hb Z12; replace BKp := bb (bk BKp) hb; replace HB := bs hb; replace HT := Sn.bT HT hb; replace HH := Sn.bH HH hb; replace HC := Sn.bC HC hb; replace HCB := Sn.bC HCB hb; replace HCA := Sn.bC HCA hb; clear Z13 Z14 Z15 Z16 Z17 Z18; obtain ⟨Z13, Z14, Z15, Z16, Z17, Z18⟩ := Sn.zc3 BKp; clear hb) | ((with_reducible refine gc 36 rfl ?_); refine gm (some 182) Tryz.func36 (Sn.tubeX (Sn.mk (bk BKp) (Sn.qS HT) (Sn.qR HH) GEp.out) HB_.out) ?_; rintro e Z28 ⟨Ax, cx, rfl, hcx, hlx, hb⟩; refine ⟨_, rfl, ?_⟩; have HCX := ra hcx; have HLX := ra hlx; replace BKp := bb (bk BKp) hb; replace HB := bs hb; replace HT := Sn.bT HT hb; replace HH := Sn.bH HH hb; replace HC := Sn.bC HC hb; replace HCB := Sn.bC HCB hb; replace HCA := Sn.bC HCA hb; replace Z27 := bb (bk Z27) hb; clear Z13 Z14 Z15 Z16 Z17 Z18; obtain ⟨Z13, Z14, Z15, Z16, Z17, Z18⟩ := Sn.zc3 BKp; clear hb hcx hlx Z12) | ((with_reducible refine gd 11 rfl ?_); refine be 11 #[.string (⟨#[]⟩ : ByteArray), .slice none 0 0] 33 ?_; intro Z29 hg Z30 hbox hb; have HG := ra hg; have HBD := ra hb; have BKX := ra hbox; clear hg hbox hb; obtain ⟨Z22, Z23, Z24, Z25⟩ := zc2 BKX) | ((with_reducible refine gate_store (t := 33) (p := 11) rfl ?_); refine store_event (t := 33) (p := 11) (v := ?vo_11) (w1 := ((Z30.setCell ⟨Z29, 0, none⟩ (.string bn_)).setCell ⟨Z29, 1, none⟩ (.slice Ax bB.length cx))) ?hg ?ho ?hn ?hr ?_; (case ho => rfl); (case hg => rfl); (case hn => rfl); (case hr => first | (go_simp; done) | (go_simp; rfl)); intro Z31 hw; have hb : Below Z28.heap.size Z28 Z31 := (by rw [hw]; exact (below_set (below_set HBD.out (Nat.le_of_eq HG.out.symm)) (Nat.le_of_eq HG.out.symm))); have Z32 : Aside0 (Z31.heap[Z29]? = some (.cells #[.string bn_, .slice Ax bB.length cx] 33 (0, 0))) := ⟨by rw [hw]; exact bp BKX⟩; clear hw BKX HBD HG Z24 Z22 Z25 Z23; replace BKp := bb (bk BKp) hb; replace HB := bs hb; replace HT := Sn.bT HT hb; replace HH := Sn.bH HH hb; replace HC := Sn.bC HC hb; replace HCB := Sn.bC HCB hb; replace HCA := Sn.bC HCA hb; replace HCX := Sn.bC HCX hb; replace Z27 := bb (bk Z27) hb; clear Z13 Z14 Z15 Z16 Z17 Z18; obtain ⟨Z13, Z14, Z15, Z16, Z17, Z18⟩ := Sn.zc3 BKp; clear hb; obtain ⟨Z33, Z34, Z35, Z36⟩ := zc2 Z27; obtain ⟨Z37, Z38, Z39, Z40⟩ := zc2 Z32))
 go_ret
 exact ⟨re, ⟨_, _, bk BKp, Sn.qS HT, Sn.qR HH, GEp.out⟩, bq⟩
theorem Sn.ia_meetNone3 (k p : Nat) (L : List S33) (nm : ByteArray) (B : List S46) (line : ByteArray) (ws : List ByteArray) (w0 w : World) (hB : Below w0.heap.size w0 w) (hWG : Lb.WG w0) (hS : St 40 w w0.heap.size p L nm B) (hs : Lb.split.f line (⟨#[32]⟩ : ByteArray) = some ws) (h0 : 0 < ws.length) (hW : (rdOf ByteArray.empty ws 0).toList = [109, 101, 101, 116]) (hlen : ws.length = 3) (hl_put : line.toList ≠ [112, 117, 116]) (hl_all : line.toList ≠ [97, 108, 108]) (hl_with : line.toList ≠ [119, 105, 116, 104]) (hl_free : line.toList ≠ [102, 114, 101, 101]) (an bn_ : ByteArray) (aB bB : List S46) (ha : impl_s_tube.f L (rdOf ByteArray.empty ws 1) = (an, aB, false)) (hb_ : impl_s_tube.f L (rdOf ByteArray.empty ws 2) = (bn_, bB, false)) :
  Calls Tryz.prog 11 #[.pointer (some ⟨p, 0, none⟩), .string line] w fun e w' => e = .returned (.string (⟨#[110, 111, 110, 101]⟩ : ByteArray)) ∧ St 40 w' w0.heap.size p L nm B ∧ Below w0.heap.size w0 w' := by
 obtain ⟨A, c, Ab, cb, BKp, HT, HH, HC, HCB, HLC, HLB, GEp⟩ := Sn.op hS
 have HB := ra hB; have HWG := ra hWG; have HS := ra hs
 clear hB hWG hs
 obtain ⟨fw_tube, fw_box, fw_drop, fw_meet, fw_cut⟩ := fi_meet hW
 have fl_put := beq_eq_false_iff_ne.mpr hl_put
 have fl_all := beq_eq_false_iff_ne.mpr hl_all
 have fl_with := beq_eq_false_iff_ne.mpr hl_with
 have fl_free := beq_eq_false_iff_ne.mpr hl_free
 have fn : ((ws.length : Int) == 3) = true := beq_iff_eq.mpr (by omega)
 have Z0 := ki 0 (ws.length : Int)
 have Z1 : (0 < ws.length) = True := eq_true h0
 have H0 := ra h0
 have HN := ra hlen; have HA := ra ha; have HB_ := ra hb_; clear ha hb_
 have Z2 := ki 1 (ws.length : Int)
 have Z3 := ki 2 (ws.length : Int)
 clear hW hlen hl_put hl_all hl_with hl_free
 have Z4 := Tryz.underlying40; have Z5 := Tryz.underlying55; have Z6 := Tryz.underlying33
 go_enter Tryz.func11, Tryz.ntmps11
 go_wp2_with (first | ((with_reducible refine gc 10 rfl ?_); refine gm (some 18) Tryz.func10 (Lb.split.calls _ _ _ _ (Lb.wg HWG) HS.out) ?_; rintro e Z7 ⟨Z8, rfl, Z9, hb⟩; obtain ⟨Aw, cw, rfl, hlw, hCw⟩ := Kd.R_reads Z9; refine ⟨_, rfl, ?_⟩; replace BKp := bb (bk BKp) hb; replace HB := bs hb; replace HT := Sn.bT HT hb; replace HH := Sn.bH HH hb; replace HC := Sn.bC HC hb; replace HCB := Sn.bC HCB hb; obtain ⟨adw, ew, Z10⟩ := Kd.at_string hCw 0 (Int.le_refl _) (by have := H0.out; omega); cases ew; replace Z10 := Sn.s0 Z10; obtain ⟨_, ew, Z11⟩ := Kd.at_string hCw 1 (by omega) (by have := HN.out; omega); cases ew; replace Z11 := Sn.s1 (i := 0) Z11; obtain ⟨_, ew, Z12⟩ := Kd.at_string hCw 2 (by omega) (by have := HN.out; omega); cases ew; replace Z12 := Sn.s1 (i := 1) Z12; have HW := ra hCw; have HLW := ra hlw; clear hb Z9 hCw hlw; obtain ⟨Z13, Z14, Z15, Z16, Z17, Z18⟩ := Sn.zc3 BKp) | ((with_reducible refine gc 36 rfl ?_); refine gm (some 174) Tryz.func36 (Sn.tubeX (Sn.mk (bk BKp) (Sn.qS HT) (Sn.qR HH) GEp.out) HA.out) ?_; rintro e Z19 ⟨Aa, ca, rfl, hca, hla, hb⟩; refine ⟨_, rfl, ?_⟩; replace Z12 := Sn.cb hb Z12; have HCA := ra hca; have HLA := ra hla; replace BKp := bb (bk BKp) hb; replace HB := bs hb; replace HT := Sn.bT HT hb; replace HH := Sn.bH HH hb; replace HC := Sn.bC HC hb; replace HCB := Sn.bC HCB hb; clear Z13 Z14 Z15 Z16 Z17 Z18; obtain ⟨Z13, Z14, Z15, Z16, Z17, Z18⟩ := Sn.zc3 BKp; clear hb hca hla Z10 Z11 HW) | ((with_reducible refine gd 9 rfl ?_); refine be 9 #[.string (⟨#[]⟩ : ByteArray), .slice none 0 0] 33 ?_; intro Z20 hg Z21 hbox hb; have HG := ra hg; have HBD := ra hb; have BKX := ra hbox; clear hg hbox hb; obtain ⟨Z22, Z23, Z24, Z25⟩ := zc2 BKX) | ((with_reducible refine gate_store (t := 33) (p := 9) rfl ?_); refine store_event (t := 33) (p := 9) (v := ?vo_9) (w1 := ((Z21.setCell ⟨Z20, 0, none⟩ (.string an)).setCell ⟨Z20, 1, none⟩ (.slice Aa aB.length ca))) ?hg ?ho ?hn ?hr ?_; (case ho => rfl); (case hg => rfl); (case hn => rfl); (case hr => first | (go_simp; done) | (go_simp; rfl)); intro Z26 hw; have hb : Below Z19.heap.size Z19 Z26 := (by rw [hw]; exact (below_set (below_set HBD.out (Nat.le_of_eq HG.out.symm)) (Nat.le_of_eq HG.out.symm))); have Z27 : Aside0 (Z26.heap[Z20]? = some (.cells #[.string an, .slice Aa aB.length ca] 33 (0, 0))) := ⟨by rw [hw]; exact bp BKX⟩; clear hw BKX HBD HG Z24 Z22 Z25 Z23; replace Z12 := Sn.cb hb Z12; replace BKp := bb (bk BKp) hb; replace HB := bs hb; replace HT := Sn.bT HT hb; replace HH := Sn.bH HH hb; replace HC := Sn.bC HC hb; replace HCB := Sn.bC HCB hb; replace HCA := Sn.bC HCA hb; clear Z13 Z14 Z15 Z16 Z17 Z18; obtain ⟨Z13, Z14, Z15, Z16, Z17, Z18⟩ := Sn.zc3 BKp; clear hb) | ((with_reducible refine gc 36 rfl ?_); refine gm (some 182) Tryz.func36 (Sn.tubeX (Sn.mk (bk BKp) (Sn.qS HT) (Sn.qR HH) GEp.out) HB_.out) ?_; rintro e Z28 ⟨Ax, cx, rfl, hcx, hlx, hb⟩; refine ⟨_, rfl, ?_⟩; have HCX := ra hcx; have HLX := ra hlx; replace BKp := bb (bk BKp) hb; replace HB := bs hb; replace HT := Sn.bT HT hb; replace HH := Sn.bH HH hb; replace HC := Sn.bC HC hb; replace HCB := Sn.bC HCB hb; replace HCA := Sn.bC HCA hb; replace Z27 := bb (bk Z27) hb; clear Z13 Z14 Z15 Z16 Z17 Z18; obtain ⟨Z13, Z14, Z15, Z16, Z17, Z18⟩ := Sn.zc3 BKp; clear hb hcx hlx Z12) | ((with_reducible refine gd 11 rfl ?_); refine be 11 #[.string (⟨#[]⟩ : ByteArray), .slice none 0 0] 33 ?_; intro Z29 hg Z30 hbox hb; have HG := ra hg; have HBD := ra hb; have BKX := ra hbox; clear hg hbox hb; obtain ⟨Z22, Z23, Z24, Z25⟩ := zc2 BKX) | ((with_reducible refine gate_store (t := 33) (p := 11) rfl ?_); refine store_event (t := 33) (p := 11) (v := ?vo_11) (w1 := ((Z30.setCell ⟨Z29, 0, none⟩ (.string bn_)).setCell ⟨Z29, 1, none⟩ (.slice Ax bB.length cx))) ?hg ?ho ?hn ?hr ?_; (case ho => rfl); (case hg => rfl); (case hn => rfl); (case hr => first | (go_simp; done) | (go_simp; rfl)); intro Z31 hw; have hb : Below Z28.heap.size Z28 Z31 := (by rw [hw]; exact (below_set (below_set HBD.out (Nat.le_of_eq HG.out.symm)) (Nat.le_of_eq HG.out.symm))); have Z32 : Aside0 (Z31.heap[Z29]? = some (.cells #[.string bn_, .slice Ax bB.length cx] 33 (0, 0))) := ⟨by rw [hw]; exact bp BKX⟩; clear hw BKX HBD HG Z24 Z22 Z25 Z23; replace BKp := bb (bk BKp) hb; replace HB := bs hb; replace HT := Sn.bT HT hb; replace HH := Sn.bH HH hb; replace HC := Sn.bC HC hb; replace HCB := Sn.bC HCB hb; replace HCA := Sn.bC HCA hb; replace HCX := Sn.bC HCX hb; replace Z27 := bb (bk Z27) hb; clear Z13 Z14 Z15 Z16 Z17 Z18; obtain ⟨Z13, Z14, Z15, Z16, Z17, Z18⟩ := Sn.zc3 BKp; clear hb; obtain ⟨Z33, Z34, Z35, Z36⟩ := zc2 Z27; obtain ⟨Z37, Z38, Z39, Z40⟩ := zc2 Z32))
 go_ret
 exact ⟨re, ⟨_, _, bk BKp, Sn.qS HT, Sn.qR HH, GEp.out⟩, bq⟩
theorem Sn.ia_meetNever (k p : Nat) (L : List S33) (nm : ByteArray) (B : List S46) (line : ByteArray) (ws : List ByteArray) (w0 w : World) (hB : Below w0.heap.size w0 w) (hWG : Lb.WG w0) (hS : St 40 w w0.heap.size p L nm B) (hs : Lb.split.f line (⟨#[32]⟩ : ByteArray) = some ws) (h0 : 0 < ws.length) (hW : (rdOf ByteArray.empty ws 0).toList = [109, 101, 101, 116]) (hlen : ws.length = 3) (hl_put : line.toList ≠ [112, 117, 116]) (hl_all : line.toList ≠ [97, 108, 108]) (hl_with : line.toList ≠ [119, 105, 116, 104]) (hl_free : line.toList ≠ [102, 114, 101, 101]) (an bn_ : ByteArray) (aB bB : List S46) (ha : impl_s_tube.f L (rdOf ByteArray.empty ws 1) = (an, aB, true)) (hb_ : impl_s_tube.f L (rdOf ByteArray.empty ws 2) = (bn_, bB, true)) (c1 c2 : ByteArray) (c3 c4 c5 : Int) (hm : impl_ProbeMeet.f k an aB bn_ bB = some (c1, c2, c3, c4, c5, false)) :
  Calls Tryz.prog 11 #[.pointer (some ⟨p, 0, none⟩), .string line] w fun e w' => e = .returned (.string (⟨#[110, 101, 118, 101, 114]⟩ : ByteArray)) ∧ St 40 w' w0.heap.size p L nm B ∧ Below w0.heap.size w0 w' := by
 obtain ⟨A, c, Ab, cb, BKp, HT, HH, HC, HCB, HLC, HLB, GEp⟩ := Sn.op hS
 have HB := ra hB; have HWG := ra hWG; have HS := ra hs
 clear hB hWG hs
 obtain ⟨fw_tube, fw_box, fw_drop, fw_meet, fw_cut⟩ := fi_meet hW
 have fl_put := beq_eq_false_iff_ne.mpr hl_put
 have fl_all := beq_eq_false_iff_ne.mpr hl_all
 have fl_with := beq_eq_false_iff_ne.mpr hl_with
 have fl_free := beq_eq_false_iff_ne.mpr hl_free
 have fn : ((ws.length : Int) == 3) = true := beq_iff_eq.mpr (by omega)
 have Z0 := ki 0 (ws.length : Int)
 have Z1 : (0 < ws.length) = True := eq_true h0
 have H0 := ra h0
 have HN := ra hlen; have HA := ra ha; have HB_ := ra hb_; clear ha hb_
 have Z2 := ki 1 (ws.length : Int)
 have Z3 := ki 2 (ws.length : Int)
 have HM := ra hm; clear hm
 clear hW hlen hl_put hl_all hl_with hl_free
 have Z4 := Tryz.underlying40; have Z5 := Tryz.underlying55; have Z6 := Tryz.underlying33
 go_enter Tryz.func11, Tryz.ntmps11
 go_wp2_with (first | ((with_reducible refine gc 10 rfl ?_); refine gm (some 18) Tryz.func10 (Lb.split.calls _ _ _ _ (Lb.wg HWG) HS.out) ?_; rintro e Z7 ⟨Z8, rfl, Z9, hb⟩; obtain ⟨Aw, cw, rfl, hlw, hCw⟩ := Kd.R_reads Z9; refine ⟨_, rfl, ?_⟩; replace BKp := bb (bk BKp) hb; replace HB := bs hb; replace HT := Sn.bT HT hb; replace HH := Sn.bH HH hb; replace HC := Sn.bC HC hb; replace HCB := Sn.bC HCB hb; obtain ⟨adw, ew, Z10⟩ := Kd.at_string hCw 0 (Int.le_refl _) (by have := H0.out; omega); cases ew; replace Z10 := Sn.s0 Z10; obtain ⟨_, ew, Z11⟩ := Kd.at_string hCw 1 (by omega) (by have := HN.out; omega); cases ew; replace Z11 := Sn.s1 (i := 0) Z11; obtain ⟨_, ew, Z12⟩ := Kd.at_string hCw 2 (by omega) (by have := HN.out; omega); cases ew; replace Z12 := Sn.s1 (i := 1) Z12; have HW := ra hCw; have HLW := ra hlw; clear hb Z9 hCw hlw; obtain ⟨Z13, Z14, Z15, Z16, Z17, Z18⟩ := Sn.zc3 BKp) | ((with_reducible refine gc 36 rfl ?_); refine gm (some 174) Tryz.func36 (Sn.tubeX (Sn.mk (bk BKp) (Sn.qS HT) (Sn.qR HH) GEp.out) HA.out) ?_; rintro e Z19 ⟨Aa, ca, rfl, hca, hla, hb⟩; refine ⟨_, rfl, ?_⟩; replace Z12 := Sn.cb hb Z12; have HCA := ra hca; have HLA := ra hla; replace BKp := bb (bk BKp) hb; replace HB := bs hb; replace HT := Sn.bT HT hb; replace HH := Sn.bH HH hb; replace HC := Sn.bC HC hb; replace HCB := Sn.bC HCB hb; clear Z13 Z14 Z15 Z16 Z17 Z18; obtain ⟨Z13, Z14, Z15, Z16, Z17, Z18⟩ := Sn.zc3 BKp; clear hb hca hla Z10 Z11 HW) | ((with_reducible refine gd 9 rfl ?_); refine be 9 #[.string (⟨#[]⟩ : ByteArray), .slice none 0 0] 33 ?_; intro Z20 hg Z21 hbox hb; have HG := ra hg; have HBD := ra hb; have BKX := ra hbox; clear hg hbox hb; obtain ⟨Z22, Z23, Z24, Z25⟩ := zc2 BKX) | ((with_reducible refine gate_store (t := 33) (p := 9) rfl ?_); refine store_event (t := 33) (p := 9) (v := ?vo_9) (w1 := ((Z21.setCell ⟨Z20, 0, none⟩ (.string an)).setCell ⟨Z20, 1, none⟩ (.slice Aa aB.length ca))) ?hg ?ho ?hn ?hr ?_; (case ho => rfl); (case hg => rfl); (case hn => rfl); (case hr => first | (go_simp; done) | (go_simp; rfl)); intro Z26 hw; have hb : Below Z19.heap.size Z19 Z26 := (by rw [hw]; exact (below_set (below_set HBD.out (Nat.le_of_eq HG.out.symm)) (Nat.le_of_eq HG.out.symm))); have Z27 : Aside0 (Z26.heap[Z20]? = some (.cells #[.string an, .slice Aa aB.length ca] 33 (0, 0))) := ⟨by rw [hw]; exact bp BKX⟩; clear hw BKX HBD HG Z24 Z22 Z25 Z23; replace Z12 := Sn.cb hb Z12; replace BKp := bb (bk BKp) hb; replace HB := bs hb; replace HT := Sn.bT HT hb; replace HH := Sn.bH HH hb; replace HC := Sn.bC HC hb; replace HCB := Sn.bC HCB hb; replace HCA := Sn.bC HCA hb; clear Z13 Z14 Z15 Z16 Z17 Z18; obtain ⟨Z13, Z14, Z15, Z16, Z17, Z18⟩ := Sn.zc3 BKp; clear hb) | ((with_reducible refine gc 36 rfl ?_); refine gm (some 182) Tryz.func36 (Sn.tubeX (Sn.mk (bk BKp) (Sn.qS HT) (Sn.qR HH) GEp.out) HB_.out) ?_; rintro e Z28 ⟨Ax, cx, rfl, hcx, hlx, hb⟩; refine ⟨_, rfl, ?_⟩; have HCX := ra hcx; have HLX := ra hlx; replace BKp := bb (bk BKp) hb; replace HB := bs hb; replace HT := Sn.bT HT hb; replace HH := Sn.bH HH hb; replace HC := Sn.bC HC hb; replace HCB := Sn.bC HCB hb; replace HCA := Sn.bC HCA hb; replace Z27 := bb (bk Z27) hb; clear Z13 Z14 Z15 Z16 Z17 Z18; obtain ⟨Z13, Z14, Z15, Z16, Z17, Z18⟩ := Sn.zc3 BKp; clear hb hcx hlx Z12) | ((with_reducible refine gd 11 rfl ?_); refine be 11 #[.string (⟨#[]⟩ : ByteArray), .slice none 0 0] 33 ?_; intro Z29 hg Z30 hbox hb; have HG := ra hg; have HBD := ra hb; have BKX := ra hbox; clear hg hbox hb; obtain ⟨Z22, Z23, Z24, Z25⟩ := zc2 BKX) | ((with_reducible refine gate_store (t := 33) (p := 11) rfl ?_); refine store_event (t := 33) (p := 11) (v := ?vo_11) (w1 := ((Z30.setCell ⟨Z29, 0, none⟩ (.string bn_)).setCell ⟨Z29, 1, none⟩ (.slice Ax bB.length cx))) ?hg ?ho ?hn ?hr ?_; (case ho => rfl); (case hg => rfl); (case hn => rfl); (case hr => first | (go_simp; done) | (go_simp; rfl)); intro Z31 hw; have hb : Below Z28.heap.size Z28 Z31 := (by rw [hw]; exact (below_set (below_set HBD.out (Nat.le_of_eq HG.out.symm)) (Nat.le_of_eq HG.out.symm))); have Z32 : Aside0 (Z31.heap[Z29]? = some (.cells #[.string bn_, .slice Ax bB.length cx] 33 (0, 0))) := ⟨by rw [hw]; exact bp BKX⟩; clear hw BKX HBD HG Z24 Z22 Z25 Z23; replace BKp := bb (bk BKp) hb; replace HB := bs hb; replace HT := Sn.bT HT hb; replace HH := Sn.bH HH hb; replace HC := Sn.bC HC hb; replace HCB := Sn.bC HCB hb; replace HCA := Sn.bC HCA hb; replace HCX := Sn.bC HCX hb; replace Z27 := bb (bk Z27) hb; clear Z13 Z14 Z15 Z16 Z17 Z18; obtain ⟨Z13, Z14, Z15, Z16, Z17, Z18⟩ := Sn.zc3 BKp; clear hb; obtain ⟨Z33, Z34, Z35, Z36⟩ := zc2 Z27; obtain ⟨Z37, Z38, Z39, Z40⟩ := zc2 Z32) | ((with_reducible refine gc 37 rfl ?_); refine gy (some 194) Tryz.func37 (impl_ProbeMeet.calls _ _ _ _ _ _ _ _ _ _ _ _ _ _ _ _ (Sn.qC HCA) HLA.out (Sn.qC HCX) HLX.out HM.out) ?_; rintro Z41 hb; clear Z33 Z34 Z35 Z36 Z37 Z38 Z39 Z40; replace BKp := bb (bk BKp) hb; replace HB := bs hb; replace HT := Sn.bT HT hb; replace HH := Sn.bH HH hb; replace HC := Sn.bC HC hb; replace HCB := Sn.bC HCB hb; clear Z13 Z14 Z15 Z16 Z17 Z18; obtain ⟨Z13, Z14, Z15, Z16, Z17, Z18⟩ := Sn.zc3 BKp; clear hb HCA HCX Z27 Z32) | ((with_reducible refine gd 13 rfl ?_); refine be 13 #[.string (⟨#[]⟩ : ByteArray), .string (⟨#[]⟩ : ByteArray), .int .i64 0, .int .i64 0, .int .i64 0] 70 ?_; intro Z42 hg Z43 hbox hb; have HG := ra hg; have HBD := ra hb; have BKX := ra hbox; clear hg hbox hb; obtain ⟨Z22, Z23, Z44, Z45, Z46, Z24, Z25, Z47, Z48, Z49⟩ := zc5 BKX) | ((with_reducible refine gate_store (t := 70) (p := 13) rfl ?_); refine store_event (t := 70) (p := 13) (v := ?vo_13) (w1 := (((((Z43.setCell ⟨Z42, 0, none⟩ (.string c1)).setCell ⟨Z42, 1, none⟩ (.string c2)).setCell ⟨Z42, 2, none⟩ (.int .i64 c3)).setCell ⟨Z42, 3, none⟩ (.int .i64 c4)).setCell ⟨Z42, 4, none⟩ (.int .i64 c5))) ?hg ?ho ?hn ?hr ?_; (case ho => rfl); (case hg => rfl); (case hn => rfl); (case hr => first | (go_simp; done) | (go_simp; rfl)); intro Z50 hw; have hb : Below Z41.heap.size Z41 Z50 := (by rw [hw]; exact (below_set (below_set (below_set (below_set (below_set HBD.out (Nat.le_of_eq HG.out.symm)) (Nat.le_of_eq HG.out.symm)) (Nat.le_of_eq HG.out.symm)) (Nat.le_of_eq HG.out.symm)) (Nat.le_of_eq HG.out.symm))); have Z51 : Aside0 (Z50.heap[Z42]? = some (.cells #[.string c1, .string c2, .int .i64 c3, .int .i64 c4, .int .i64 c5] 70 (0, 0))) := ⟨by rw [hw]; exact bp BKX⟩; clear hw BKX HBD HG Z24 Z22 Z25 Z23 Z47 Z44 Z48 Z45 Z49 Z46; replace BKp := bb (bk BKp) hb; replace HB := bs hb; replace HT := Sn.bT HT hb; replace HH := Sn.bH HH hb; replace HC := Sn.bC HC hb; replace HCB := Sn.bC HCB hb; clear Z13 Z14 Z15 Z16 Z17 Z18; obtain ⟨Z13, Z14, Z15, Z16, Z17, Z18⟩ := Sn.zc3 BKp; clear hb; obtain ⟨Z33, Z34, Z52, Z53, Z54, Z35, Z36, Z55, Z56, Z57⟩ := zc5 Z51))
 go_ret
 exact ⟨re, ⟨_, _, bk BKp, Sn.qS HT, Sn.qR HH, GEp.out⟩, bq⟩
theorem Sn.ia_meet (k p : Nat) (L : List S33) (nm : ByteArray) (B : List S46) (line : ByteArray) (ws : List ByteArray) (w0 w : World) (hB : Below w0.heap.size w0 w) (hWG : Lb.WG w0) (hS : St 40 w w0.heap.size p L nm B) (hs : Lb.split.f line (⟨#[32]⟩ : ByteArray) = some ws) (h0 : 0 < ws.length) (hW : (rdOf ByteArray.empty ws 0).toList = [109, 101, 101, 116]) (hlen : ws.length = 3) (hl_put : line.toList ≠ [112, 117, 116]) (hl_all : line.toList ≠ [97, 108, 108]) (hl_with : line.toList ≠ [119, 105, 116, 104]) (hl_free : line.toList ≠ [102, 114, 101, 101]) (an bn_ : ByteArray) (aB bB : List S46) (ha : impl_s_tube.f L (rdOf ByteArray.empty ws 1) = (an, aB, true)) (hb_ : impl_s_tube.f L (rdOf ByteArray.empty ws 2) = (bn_, bB, true)) (c1 c2 : ByteArray) (c3 c4 c5 : Int) (hm : impl_ProbeMeet.f k an aB bn_ bB = some (c1, c2, c3, c4, c5, true)) (r : ByteArray) (hr : impl_clash.f c1 c2 c3 c4 c5 = some r) :
  Calls Tryz.prog 11 #[.pointer (some ⟨p, 0, none⟩), .string line] w fun e w' => e = .returned (.string r) ∧ St 40 w' w0.heap.size p L nm B ∧ Below w0.heap.size w0 w' := by
 obtain ⟨A, c, Ab, cb, BKp, HT, HH, HC, HCB, HLC, HLB, GEp⟩ := Sn.op hS
 have HB := ra hB; have HWG := ra hWG; have HS := ra hs
 clear hB hWG hs
 obtain ⟨fw_tube, fw_box, fw_drop, fw_meet, fw_cut⟩ := fi_meet hW
 have fl_put := beq_eq_false_iff_ne.mpr hl_put
 have fl_all := beq_eq_false_iff_ne.mpr hl_all
 have fl_with := beq_eq_false_iff_ne.mpr hl_with
 have fl_free := beq_eq_false_iff_ne.mpr hl_free
 have fn : ((ws.length : Int) == 3) = true := beq_iff_eq.mpr (by omega)
 have Z0 := ki 0 (ws.length : Int)
 have Z1 : (0 < ws.length) = True := eq_true h0
 have H0 := ra h0
 have HN := ra hlen; have HA := ra ha; have HB_ := ra hb_; clear ha hb_
 have Z2 := ki 1 (ws.length : Int)
 have Z3 := ki 2 (ws.length : Int)
 have HM := ra hm; clear hm; have HR := ra hr; clear hr
 clear hW hlen hl_put hl_all hl_with hl_free
 have Z4 := Tryz.underlying40; have Z5 := Tryz.underlying55; have Z6 := Tryz.underlying33
 go_enter Tryz.func11, Tryz.ntmps11
 go_wp2_with (first | ((with_reducible refine gc 10 rfl ?_); refine gm (some 18) Tryz.func10 (Lb.split.calls _ _ _ _ (Lb.wg HWG) HS.out) ?_; rintro e Z7 ⟨Z8, rfl, Z9, hb⟩; obtain ⟨Aw, cw, rfl, hlw, hCw⟩ := Kd.R_reads Z9; refine ⟨_, rfl, ?_⟩; replace BKp := bb (bk BKp) hb; replace HB := bs hb; replace HT := Sn.bT HT hb; replace HH := Sn.bH HH hb; replace HC := Sn.bC HC hb; replace HCB := Sn.bC HCB hb; obtain ⟨adw, ew, Z10⟩ := Kd.at_string hCw 0 (Int.le_refl _) (by have := H0.out; omega); cases ew; replace Z10 := Sn.s0 Z10; obtain ⟨_, ew, Z11⟩ := Kd.at_string hCw 1 (by omega) (by have := HN.out; omega); cases ew; replace Z11 := Sn.s1 (i := 0) Z11; obtain ⟨_, ew, Z12⟩ := Kd.at_string hCw 2 (by omega) (by have := HN.out; omega); cases ew; replace Z12 := Sn.s1 (i := 1) Z12; have HW := ra hCw; have HLW := ra hlw; clear hb Z9 hCw hlw; obtain ⟨Z13, Z14, Z15, Z16, Z17, Z18⟩ := Sn.zc3 BKp) | ((with_reducible refine gc 36 rfl ?_); refine gm (some 174) Tryz.func36 (Sn.tubeX (Sn.mk (bk BKp) (Sn.qS HT) (Sn.qR HH) GEp.out) HA.out) ?_; rintro e Z19 ⟨Aa, ca, rfl, hca, hla, hb⟩; refine ⟨_, rfl, ?_⟩; replace Z12 := Sn.cb hb Z12; have HCA := ra hca; have HLA := ra hla; replace BKp := bb (bk BKp) hb; replace HB := bs hb; replace HT := Sn.bT HT hb; replace HH := Sn.bH HH hb; replace HC := Sn.bC HC hb; replace HCB := Sn.bC HCB hb; clear Z13 Z14 Z15 Z16 Z17 Z18; obtain ⟨Z13, Z14, Z15, Z16, Z17, Z18⟩ := Sn.zc3 BKp; clear hb hca hla Z10 Z11 HW) | ((with_reducible refine gd 9 rfl ?_); refine be 9 #[.string (⟨#[]⟩ : ByteArray), .slice none 0 0] 33 ?_; intro Z20 hg Z21 hbox hb; have HG := ra hg; have HBD := ra hb; have BKX := ra hbox; clear hg hbox hb; obtain ⟨Z22, Z23, Z24, Z25⟩ := zc2 BKX) | ((with_reducible refine gate_store (t := 33) (p := 9) rfl ?_); refine store_event (t := 33) (p := 9) (v := ?vo_9) (w1 := ((Z21.setCell ⟨Z20, 0, none⟩ (.string an)).setCell ⟨Z20, 1, none⟩ (.slice Aa aB.length ca))) ?hg ?ho ?hn ?hr ?_; (case ho => rfl); (case hg => rfl); (case hn => rfl); (case hr => first | (go_simp; done) | (go_simp; rfl)); intro Z26 hw; have hb : Below Z19.heap.size Z19 Z26 := (by rw [hw]; exact (below_set (below_set HBD.out (Nat.le_of_eq HG.out.symm)) (Nat.le_of_eq HG.out.symm))); have Z27 : Aside0 (Z26.heap[Z20]? = some (.cells #[.string an, .slice Aa aB.length ca] 33 (0, 0))) := ⟨by rw [hw]; exact bp BKX⟩; clear hw BKX HBD HG Z24 Z22 Z25 Z23; replace Z12 := Sn.cb hb Z12; replace BKp := bb (bk BKp) hb; replace HB := bs hb; replace HT := Sn.bT HT hb; replace HH := Sn.bH HH hb; replace HC := Sn.bC HC hb; replace HCB := Sn.bC HCB hb; replace HCA := Sn.bC HCA hb; clear Z13 Z14 Z15 Z16 Z17 Z18; obtain ⟨Z13, Z14, Z15, Z16, Z17, Z18⟩ := Sn.zc3 BKp; clear hb) | ((with_reducible refine gc 36 rfl ?_); refine gm (some 182) Tryz.func36 (Sn.tubeX (Sn.mk (bk BKp) (Sn.qS HT) (Sn.qR HH) GEp.out) HB_.out) ?_; rintro e Z28 ⟨Ax, cx, rfl, hcx, hlx, hb⟩; refine ⟨_, rfl, ?_⟩; have HCX := ra hcx; have HLX := ra hlx; replace BKp := bb (bk BKp) hb; replace HB := bs hb; replace HT := Sn.bT HT hb; replace HH := Sn.bH HH hb; replace HC := Sn.bC HC hb; replace HCB := Sn.bC HCB hb; replace HCA := Sn.bC HCA hb; replace Z27 := bb (bk Z27) hb; clear Z13 Z14 Z15 Z16 Z17 Z18; obtain ⟨Z13, Z14, Z15, Z16, Z17, Z18⟩ := Sn.zc3 BKp; clear hb hcx hlx Z12) | ((with_reducible refine gd 11 rfl ?_); refine be 11 #[.string (⟨#[]⟩ : ByteArray), .slice none 0 0] 33 ?_; intro Z29 hg Z30 hbox hb; have HG := ra hg; have HBD := ra hb; have BKX := ra hbox; clear hg hbox hb; obtain ⟨Z22, Z23, Z24, Z25⟩ := zc2 BKX) | ((with_reducible refine gate_store (t := 33) (p := 11) rfl ?_); refine store_event (t := 33) (p := 11) (v := ?vo_11) (w1 := ((Z30.setCell ⟨Z29, 0, none⟩ (.string bn_)).setCell ⟨Z29, 1, none⟩ (.slice Ax bB.length cx))) ?hg ?ho ?hn ?hr ?_; (case ho => rfl); (case hg => rfl); (case hn => rfl); (case hr => first | (go_simp; done) | (go_simp; rfl)); intro Z31 hw; have hb : Below Z28.heap.size Z28 Z31 := (by rw [hw]; exact (below_set (below_set HBD.out (Nat.le_of_eq HG.out.symm)) (Nat.le_of_eq HG.out.symm))); have Z32 : Aside0 (Z31.heap[Z29]? = some (.cells #[.string bn_, .slice Ax bB.length cx] 33 (0, 0))) := ⟨by rw [hw]; exact bp BKX⟩; clear hw BKX HBD HG Z24 Z22 Z25 Z23; replace BKp := bb (bk BKp) hb; replace HB := bs hb; replace HT := Sn.bT HT hb; replace HH := Sn.bH HH hb; replace HC := Sn.bC HC hb; replace HCB := Sn.bC HCB hb; replace HCA := Sn.bC HCA hb; replace HCX := Sn.bC HCX hb; replace Z27 := bb (bk Z27) hb; clear Z13 Z14 Z15 Z16 Z17 Z18; obtain ⟨Z13, Z14, Z15, Z16, Z17, Z18⟩ := Sn.zc3 BKp; clear hb; obtain ⟨Z33, Z34, Z35, Z36⟩ := zc2 Z27; obtain ⟨Z37, Z38, Z39, Z40⟩ := zc2 Z32) | ((with_reducible refine gc 37 rfl ?_); refine gy (some 194) Tryz.func37 (impl_ProbeMeet.calls _ _ _ _ _ _ _ _ _ _ _ _ _ _ _ _ (Sn.qC HCA) HLA.out (Sn.qC HCX) HLX.out HM.out) ?_; rintro Z41 hb; clear Z33 Z34 Z35 Z36 Z37 Z38 Z39 Z40; replace BKp := bb (bk BKp) hb; replace HB := bs hb; replace HT := Sn.bT HT hb; replace HH := Sn.bH HH hb; replace HC := Sn.bC HC hb; replace HCB := Sn.bC HCB hb; clear Z13 Z14 Z15 Z16 Z17 Z18; obtain ⟨Z13, Z14, Z15, Z16, Z17, Z18⟩ := Sn.zc3 BKp; clear hb HCA HCX Z27 Z32) | ((with_reducible refine gd 13 rfl ?_); refine be 13 #[.string (⟨#[]⟩ : ByteArray), .string (⟨#[]⟩ : ByteArray), .int .i64 0, .int .i64 0, .int .i64 0] 70 ?_; intro Z42 hg Z43 hbox hb; have HG := ra hg; have HBD := ra hb; have BKX := ra hbox; clear hg hbox hb; obtain ⟨Z22, Z23, Z44, Z45, Z46, Z24, Z25, Z47, Z48, Z49⟩ := zc5 BKX) | ((with_reducible refine gate_store (t := 70) (p := 13) rfl ?_); refine store_event (t := 70) (p := 13) (v := ?vo_13) (w1 := (((((Z43.setCell ⟨Z42, 0, none⟩ (.string c1)).setCell ⟨Z42, 1, none⟩ (.string c2)).setCell ⟨Z42, 2, none⟩ (.int .i64 c3)).setCell ⟨Z42, 3, none⟩ (.int .i64 c4)).setCell ⟨Z42, 4, none⟩ (.int .i64 c5))) ?hg ?ho ?hn ?hr ?_; (case ho => rfl); (case hg => rfl); (case hn => rfl); (case hr => first | (go_simp; done) | (go_simp; rfl)); intro Z50 hw; have hb : Below Z41.heap.size Z41 Z50 := (by rw [hw]; exact (below_set (below_set (below_set (below_set (below_set HBD.out (Nat.le_of_eq HG.out.symm)) (Nat.le_of_eq HG.out.symm)) (Nat.le_of_eq HG.out.symm)) (Nat.le_of_eq HG.out.symm)) (Nat.le_of_eq HG.out.symm))); have Z51 : Aside0 (Z50.heap[Z42]? = some (.cells #[.string c1, .string c2, .int .i64 c3, .int .i64 c4, .int .i64 c5] 70 (0, 0))) := ⟨by rw [hw]; exact bp BKX⟩; clear hw BKX HBD HG Z24 Z22 Z25 Z23 Z47 Z44 Z48 Z45 Z49 Z46; replace BKp := bb (bk BKp) hb; replace HB := bs hb; replace HT := Sn.bT HT hb; replace HH := Sn.bH HH hb; replace HC := Sn.bC HC hb; replace HCB := Sn.bC HCB hb; clear Z13 Z14 Z15 Z16 Z17 Z18; obtain ⟨Z13, Z14, Z15, Z16, Z17, Z18⟩ := Sn.zc3 BKp; clear hb; obtain ⟨Z33, Z34, Z52, Z53, Z54, Z35, Z36, Z55, Z56, Z57⟩ := zc5 Z51) | ((with_reducible refine gc 38 rfl ?_); refine gy (some 199) Tryz.func38 (impl_clash.calls _ _ _ _ _ _ _ (Lb.wg HWG) HR.out) ?_; rintro Z58 hb; replace BKp := bb (bk BKp) hb; replace HB := bs hb; replace HT := Sn.bT HT hb; replace HH := Sn.bH HH hb; replace HC := Sn.bC HC hb; replace HCB := Sn.bC HCB hb; clear Z33 Z34 Z52 Z53 Z54 Z35 Z36 Z55 Z56 Z57; clear Z13 Z14 Z15 Z16 Z17 Z18; obtain ⟨Z13, Z14, Z15, Z16, Z17, Z18⟩ := Sn.zc3 BKp; clear hb Z51))
 go_ret
 exact ⟨re, ⟨_, _, bk BKp, Sn.qS HT, Sn.qR HH, GEp.out⟩, bq⟩
theorem Sn.ia_cutNo (k p : Nat) (L : List S33) (nm : ByteArray) (B : List S46) (line : ByteArray) (ws : List ByteArray) (w0 w : World) (hB : Below w0.heap.size w0 w) (hWG : Lb.WG w0) (hS : St 40 w w0.heap.size p L nm B) (hs : Lb.split.f line (⟨#[32]⟩ : ByteArray) = some ws) (h0 : 0 < ws.length) (hW : (rdOf ByteArray.empty ws 0).toList = [99, 117, 116]) (hlen : ws.length = 2) (hl_put : line.toList ≠ [112, 117, 116]) (hl_all : line.toList ≠ [97, 108, 108]) (hl_with : line.toList ≠ [119, 105, 116, 104]) (hl_free : line.toList ≠ [102, 114, 101, 101]) (n : Int) (hd : impl_decimal.f k (rdOf ByteArray.empty ws 1) = some (n, false)) :
  Calls Tryz.prog 11 #[.pointer (some ⟨p, 0, none⟩), .string line] w fun e w' => e = .returned (.string (⟨#[98, 97, 100]⟩ : ByteArray)) ∧ St 40 w' w0.heap.size p L nm B ∧ Below w0.heap.size w0 w' := by
 obtain ⟨A, c, Ab, cb, BKp, HT, HH, HC, HCB, HLC, HLB, GEp⟩ := Sn.op hS
 have HB := ra hB; have HWG := ra hWG; have HS := ra hs
 clear hB hWG hs
 obtain ⟨fw_tube, fw_box, fw_drop, fw_meet, fw_cut⟩ := fi_cut hW
 have fl_put := beq_eq_false_iff_ne.mpr hl_put
 have fl_all := beq_eq_false_iff_ne.mpr hl_all
 have fl_with := beq_eq_false_iff_ne.mpr hl_with
 have fl_free := beq_eq_false_iff_ne.mpr hl_free
 have fn : ((ws.length : Int) == 2) = true := beq_iff_eq.mpr (by omega)
 have Z0 := ki 0 (ws.length : Int)
 have Z1 : (0 < ws.length) = True := eq_true h0
 have H0 := ra h0
 have HN := ra hlen
 have Z2 := ki 1 (ws.length : Int)
 have HD := ra hd; clear hd
 clear hW hlen hl_put hl_all hl_with hl_free
 have Z3 := Tryz.underlying40; have Z4 := Tryz.underlying55; have Z5 := Tryz.underlying33
 go_enter Tryz.func11, Tryz.ntmps11
 go_wp2_with (first | ((with_reducible refine gc 10 rfl ?_); refine gm (some 18) Tryz.func10 (Lb.split.calls _ _ _ _ (Lb.wg HWG) HS.out) ?_; rintro e Z6 ⟨Z7, rfl, Z8, hb⟩; obtain ⟨Aw, cw, rfl, hlw, hCw⟩ := Kd.R_reads Z8; refine ⟨_, rfl, ?_⟩; replace BKp := bb (bk BKp) hb; replace HB := bs hb; replace HT := Sn.bT HT hb; replace HH := Sn.bH HH hb; replace HC := Sn.bC HC hb; replace HCB := Sn.bC HCB hb; obtain ⟨adw, ew, Z9⟩ := Kd.at_string hCw 0 (Int.le_refl _) (by have := H0.out; omega); cases ew; replace Z9 := Sn.s0 Z9; obtain ⟨_, ew, Z10⟩ := Kd.at_string hCw 1 (by omega) (by have := HN.out; omega); cases ew; replace Z10 := Sn.s1 (i := 0) Z10; have HW := ra hCw; have HLW := ra hlw; clear hb Z8 hCw hlw; obtain ⟨Z11, Z12, Z13, Z14, Z15, Z16⟩ := Sn.zc3 BKp) | ((with_reducible refine gc 39 rfl ?_); refine gy (some 214) Tryz.func39 (impl_decimal.calls _ _ _ _ _ HD.out) ?_; rintro Z17 hb; replace BKp := bb (bk BKp) hb; replace HB := bs hb; replace HT := Sn.bT HT hb; replace HH := Sn.bH HH hb; replace HC := Sn.bC HC hb; replace HCB := Sn.bC HCB hb; clear Z11 Z12 Z13 Z14 Z15 Z16; obtain ⟨Z11, Z12, Z13, Z14, Z15, Z16⟩ := Sn.zc3 BKp; clear hb Z9 Z10 HW))
 go_ret
 exact ⟨re, ⟨_, _, bk BKp, Sn.qS HT, Sn.qR HH, GEp.out⟩, bq⟩
theorem Sn.ia_cut (k p : Nat) (L : List S33) (nm : ByteArray) (B : List S46) (line : ByteArray) (ws : List ByteArray) (w0 w : World) (hB : Below w0.heap.size w0 w) (hWG : Lb.WG w0) (hS : St 40 w w0.heap.size p L nm B) (hs : Lb.split.f line (⟨#[32]⟩ : ByteArray) = some ws) (h0 : 0 < ws.length) (hW : (rdOf ByteArray.empty ws 0).toList = [99, 117, 116]) (hlen : ws.length = 2) (hl_put : line.toList ≠ [112, 117, 116]) (hl_all : line.toList ≠ [97, 108, 108]) (hl_with : line.toList ≠ [119, 105, 116, 104]) (hl_free : line.toList ≠ [102, 114, 101, 101]) (n : Int) (hd : impl_decimal.f k (rdOf ByteArray.empty ws 1) = some (n, true)) (cn : ByteArray) (cB : List S46) (hcu : impl_ProbeCut.f k nm B n = some (cn, cB)) (r : ByteArray) (hi : Lb.itoa.f (cB.length : Int) = some r) :
  Calls Tryz.prog 11 #[.pointer (some ⟨p, 0, none⟩), .string line] w fun e w' => e = .returned (.string r) ∧ St 40 w' w0.heap.size p L cn cB ∧ Below w0.heap.size w0 w' := by
 obtain ⟨A, c, Ab, cb, BKp, HT, HH, HC, HCB, HLC, HLB, GEp⟩ := Sn.op hS
 have HB := ra hB; have HWG := ra hWG; have HS := ra hs
 clear hB hWG hs
 obtain ⟨fw_tube, fw_box, fw_drop, fw_meet, fw_cut⟩ := fi_cut hW
 have fl_put := beq_eq_false_iff_ne.mpr hl_put
 have fl_all := beq_eq_false_iff_ne.mpr hl_all
 have fl_with := beq_eq_false_iff_ne.mpr hl_with
 have fl_free := beq_eq_false_iff_ne.mpr hl_free
 have fn : ((ws.length : Int) == 2) = true := beq_iff_eq.mpr (by omega)
 have Z0 := ki 0 (ws.length : Int)
 have Z1 : (0 < ws.length) = True := eq_true h0
 have H0 := ra h0
 have HN := ra hlen
 have Z2 := ki 1 (ws.length : Int)
 have HD := ra hd; clear hd; have HCU := ra hcu; have HI := ra hi; clear hcu hi
 clear hW hlen hl_put hl_all hl_with hl_free
 have Z3 := Tryz.underlying40; have Z4 := Tryz.underlying55; have Z5 := Tryz.underlying33
 go_enter Tryz.func11, Tryz.ntmps11
 go_wp2_with (first | ((with_reducible refine gc 10 rfl ?_); refine gm (some 18) Tryz.func10 (Lb.split.calls _ _ _ _ (Lb.wg HWG) HS.out) ?_; rintro e Z6 ⟨Z7, rfl, Z8, hb⟩; obtain ⟨Aw, cw, rfl, hlw, hCw⟩ := Kd.R_reads Z8; refine ⟨_, rfl, ?_⟩; replace BKp := bb (bk BKp) hb; replace HB := bs hb; replace HT := Sn.bT HT hb; replace HH := Sn.bH HH hb; replace HC := Sn.bC HC hb; replace HCB := Sn.bC HCB hb; obtain ⟨adw, ew, Z9⟩ := Kd.at_string hCw 0 (Int.le_refl _) (by have := H0.out; omega); cases ew; replace Z9 := Sn.s0 Z9; obtain ⟨_, ew, Z10⟩ := Kd.at_string hCw 1 (by omega) (by have := HN.out; omega); cases ew; replace Z10 := Sn.s1 (i := 0) Z10; have HW := ra hCw; have HLW := ra hlw; clear hb Z8 hCw hlw; obtain ⟨Z11, Z12, Z13, Z14, Z15, Z16⟩ := Sn.zc3 BKp) | ((with_reducible refine gc 39 rfl ?_); refine gy (some 214) Tryz.func39 (impl_decimal.calls _ _ _ _ _ HD.out) ?_; rintro Z17 hb; replace BKp := bb (bk BKp) hb; replace HB := bs hb; replace HT := Sn.bT HT hb; replace HH := Sn.bH HH hb; replace HC := Sn.bC HC hb; replace HCB := Sn.bC HCB hb; clear Z11 Z12 Z13 Z14 Z15 Z16; obtain ⟨Z11, Z12, Z13, Z14, Z15, Z16⟩ := Sn.zc3 BKp; clear hb Z9 Z10 HW) | ((with_reducible refine gc 40 rfl ?_); refine gm (some 225) Tryz.func40 (impl_ProbeCut.calls _ _ _ _ _ _ _ _ _ (Sn.qC HCB) HLB.out HCU.out) ?_; rintro e Z18 ⟨Z19, rfl, Z20, hb⟩; obtain ⟨Ac, cc, rfl⟩ := Kd.R_slice Z20; refine ⟨_, rfl, ?_⟩; have _ := bb (bk BKp) hb; have _ := ra (Kd.S_mono (Kd.S_elder' HT.out (Kd.R_base Z20) hb) (fun _ hk => hk.2)); have _ := ra (Kd.R_lower Z20 (below_size HB.out)); have _ := bs hb; clear BKp HT HH HB HC HCB; rename_i BKp HT HH HB; clear Z11 Z12 Z13 Z14 Z15 Z16; obtain ⟨Z11, Z12, Z13, Z14, Z15, Z16⟩ := Sn.zc3 BKp; clear hb Z20) | ((with_reducible refine gate_store (t := 33) (p := 227) rfl ?_); refine store_event (t := 33) (p := 227) (v := ?vo_227) (w1 := ((Z18.setCell ⟨p, 1, none⟩ (.string cn)).setCell ⟨p, 2, none⟩ (.slice Ac cB.length cc))) ?hg ?ho ?hn ?hr ?_; (case ho => rfl); (case hg => rfl); (case hn => rfl); (case hr => first | (go_simp; done) | (go_simp; rfl)); intro Z21 hw; have _ : Aside0 (Z21.heap[p]? = some (.cells #[.slice A L.length c, .string cn, .slice Ac cB.length cc] 40 (0, 0))) := ⟨by rw [hw]; exact bp BKp⟩; have _ : Aside0 (Kd.S k33 33 Z21 w0.heap.size (fun k_ => some k_ ≠ (Value.slice Ac cB.length cc).ownBlock) (.slice A L.length c) L) := ⟨by rw [hw]; exact Sn.setT (Sn.setT HT.out BKp.out (by decide)) (bp (cs2 := #[.slice A L.length c, .string cn, .slice Ab B.length cb]) BKp) (by decide)⟩; have _ : Aside0 (Kd.R k46 46 Z21 w0.heap.size (fun _ => True) (.slice Ac cB.length cc) cB) := ⟨by rw [hw]; exact Sn.setH (Sn.setH HH.out BKp.out (by decide)) (bp (cs2 := #[.slice A L.length c, .string cn, .slice Ab B.length cb]) BKp) (by decide)⟩; have _ : Aside0 (Below w0.heap.size w0 Z21) := ⟨by rw [hw]; exact bq⟩; clear hw BKp HT HH HB; rename_i BKp HT HH HB; clear Z11 Z12 Z13 Z14 Z15 Z16; obtain ⟨Z11, Z12, Z13, Z14, Z15, Z16⟩ := Sn.zc3 BKp; skip) | ((with_reducible refine gc 41 rfl ?_); refine gy (some 234) Tryz.func41 (Lb.itoa.calls _ _ _ (Lb.wg HWG) HI.out) ?_; rintro Z22 hb; replace BKp := bb (bk BKp) hb; replace HT := Sn.bT HT hb; replace HH := Sn.bH HH hb; replace HB := bs hb; clear Z11 Z12 Z13 Z14 Z15 Z16; obtain ⟨Z11, Z12, Z13, Z14, Z15, Z16⟩ := Sn.zc3 BKp; clear hb))
 go_ret
 exact ⟨re, ⟨_, _, bk BKp, Sn.qS HT, Sn.qR HH, GEp.out⟩, bq⟩
theorem Sn.bytes_ext {a b : ByteArray} (h : a.toList = b.toList) : a = b := by
 rw [ByteArray.toList_eq, ByteArray.toList_eq] at h
 cases a; cases b
 simp only [ByteArray.mk.injEq]
 exact Array.toList_inj.1 h
def impl_s_ans.f (k : Nat) (st : Sx) (line : ByteArray) (ws : List ByteArray) : Option (ByteArray × Sx) :=
 if (rdOf ByteArray.empty ws 0).toList = ([116, 117, 98, 101] : List UInt8) then (if ws.length = 2 then some ((⟨#[111, 107]⟩ : ByteArray), (st.1, (rdOf ByteArray.empty ws 1), [])) else some (((⟨#[98, 97, 100]⟩ : ByteArray), st) : ByteArray × Sx))
 else if (rdOf ByteArray.empty ws 0).toList = ([98, 111, 120] : List UInt8) then (if ws.length = 7 then (impl_numbers.f k (ws.drop 1)).bind fun pr => (if pr.2 = true then (if 6 ≤ pr.1.length then (impl_ProbeBoxOk.f (rd pr.1 0) (rd pr.1 1) (rd pr.1 2) (rd pr.1 3) (rd pr.1 4) (rd pr.1 5)).bind fun fine => (if fine = true ∧ st.2.2.length < 40 then some ((⟨#[111, 107]⟩ : ByteArray), (st.1, st.2.1, st.2.2 ++ [(⟨rd pr.1 0, rd pr.1 1, rd pr.1 2, rd pr.1 3, rd pr.1 4, rd pr.1 5⟩ : S46)])) else some (((⟨#[110, 111]⟩ : ByteArray), st) : ByteArray × Sx)) else none) else some (((⟨#[98, 97, 100]⟩ : ByteArray), st) : ByteArray × Sx)) else some (((⟨#[98, 97, 100]⟩ : ByteArray), st) : ByteArray × Sx))
 else if (rdOf ByteArray.empty ws 0).toList = ([100, 114, 111, 112] : List UInt8) then (if ws.length = 2 then impl_s_happen.f k st true (rdOf ByteArray.empty ws 1) [] else some (((⟨#[98, 97, 100]⟩ : ByteArray), st) : ByteArray × Sx))
 else if (rdOf ByteArray.empty ws 0).toList = ([109, 101, 101, 116] : List UInt8) then (if ws.length = 3 then (if (impl_s_tube.f st.1 (rdOf ByteArray.empty ws 1)).2.2 = true ∧ (impl_s_tube.f st.1 (rdOf ByteArray.empty ws 2)).2.2 = true then (impl_ProbeMeet.f k (impl_s_tube.f st.1 (rdOf ByteArray.empty ws 1)).1 (impl_s_tube.f st.1 (rdOf ByteArray.empty ws 1)).2.1 (impl_s_tube.f st.1 (rdOf ByteArray.empty ws 2)).1 (impl_s_tube.f st.1 (rdOf ByteArray.empty ws 2)).2.1).bind fun m => (if m.2.2.2.2.2 = true then (impl_clash.f m.1 m.2.1 m.2.2.1 m.2.2.2.1 m.2.2.2.2.1).bind fun r => some (r, st) else some (((⟨#[110, 101, 118, 101, 114]⟩ : ByteArray), st) : ByteArray × Sx)) else some (((⟨#[110, 111, 110, 101]⟩ : ByteArray), st) : ByteArray × Sx)) else some (((⟨#[98, 97, 100]⟩ : ByteArray), st) : ByteArray × Sx))
 else if (rdOf ByteArray.empty ws 0).toList = ([99, 117, 116] : List UInt8) then (if ws.length = 2 then (impl_decimal.f k (rdOf ByteArray.empty ws 1)).bind fun pr => (if pr.2 = true then (impl_ProbeCut.f k st.2.1 st.2.2 pr.1).bind fun cu => (Lb.itoa.f (cu.2.length : Int)).bind fun r => some (r, (st.1, cu.1, cu.2)) else some (((⟨#[98, 97, 100]⟩ : ByteArray), st) : ByteArray × Sx)) else some (((⟨#[98, 97, 100]⟩ : ByteArray), st) : ByteArray × Sx))
 else if line.toList = ([112, 117, 116] : List UInt8) then (impl_copyTube.f st.2.1 st.2.2).bind fun cp => impl_s_happen.f k st false cp.1 cp.2
 else if line.toList = ([97, 108, 108] : List UInt8) then (impl_ProbeAll.f k st.1).bind fun cl => (impl_clashes.f k cl).bind fun r => some (r, st)
 else if line.toList = ([119, 105, 116, 104] : List UInt8) then (impl_ProbeWith.f k st.1 st.2.1 st.2.2).bind fun cl => (impl_clashes.f k cl).bind fun r => some (r, st)
 else if line.toList = ([102, 114, 101, 101] : List UInt8) then (impl_ProbeFree.f k st.1 st.2.1 st.2.2).bind fun b => some (if b = true then (((⟨#[121, 101, 115]⟩ : ByteArray), st) : ByteArray × Sx) else (((⟨#[110, 111]⟩ : ByteArray), st) : ByteArray × Sx))
 else some (((⟨#[98, 97, 100]⟩ : ByteArray), st) : ByteArray × Sx)
def impl_s_answer.f (k : Nat) (st : Sx) (line : ByteArray) : Option (ByteArray × Sx) := (Lb.split.f line (⟨#[32]⟩ : ByteArray)).bind fun ws => if 0 < ws.length then impl_s_ans.f k st line ws else none
theorem Sn.put_words : Lb.split.f (⟨#[112, 117, 116]⟩ : ByteArray) (⟨#[32]⟩ : ByteArray) = some [(⟨#[112, 117, 116]⟩ : ByteArray)] := by decide +kernel
theorem Sn.all_words : Lb.split.f (⟨#[97, 108, 108]⟩ : ByteArray) (⟨#[32]⟩ : ByteArray) = some [(⟨#[97, 108, 108]⟩ : ByteArray)] := by decide +kernel
theorem Sn.with_words : Lb.split.f (⟨#[119, 105, 116, 104]⟩ : ByteArray) (⟨#[32]⟩ : ByteArray) = some [(⟨#[119, 105, 116, 104]⟩ : ByteArray)] := by decide +kernel
theorem Sn.free_words : Lb.split.f (⟨#[102, 114, 101, 101]⟩ : ByteArray) (⟨#[32]⟩ : ByteArray) = some [(⟨#[102, 114, 101, 101]⟩ : ByteArray)] := by decide +kernel
theorem Sn.one_word {line x : ByteArray} {ws : List ByteArray} {l m : List UInt8} (hx : Lb.split.f x (⟨#[32]⟩ : ByteArray) = some [x]) (hxl : x.toList = l) (hs : Lb.split.f line (⟨#[32]⟩ : ByteArray) = some ws) (hW : (rdOf ByteArray.empty ws 0).toList = m) (hne : m ≠ l) : line.toList ≠ l := by
 intro e
 obtain rfl : line = x := Sn.bytes_ext (e.trans hxl.symm)
 rw [hs] at hx
 cases hx
 exact hne (hW.symm.trans hxl)
theorem impl_s_answer.calls (k p : Nat) (L : List S33) (nm : ByteArray) (B : List S46) (line r : ByteArray) (st' : Sx) (w0 w : World) (hB : Below w0.heap.size w0 w) (hWG : Lb.WG w0) (hS : St 40 w w0.heap.size p L nm B) (h : impl_s_answer.f k (L, nm, B) line = some (r, st')) :
  Calls Tryz.prog 11 #[.pointer (some ⟨p, 0, none⟩), .string line] w fun e w' => e = .returned (.string r) ∧ St 40 w' w0.heap.size p st'.1 st'.2.1 st'.2.2 ∧ Below w0.heap.size w0 w' := by
 unfold impl_s_answer.f at h
 obtain ⟨ws, hs, h⟩ := Option.bind_eq_some_iff.1 h
 by_cases Z0 : 0 < ws.length
 rotate_left
 ·rw [if_neg Z0] at h; cases h
 rw [if_pos Z0] at h
 unfold impl_s_ans.f at h
 dsimp only at h
 by_cases hW : (rdOf ByteArray.empty ws 0).toList = ([116, 117, 98, 101] : List UInt8)
 ·rw [if_pos hW] at h
  by_cases hlen : ws.length = 2
  ·rw [if_pos hlen] at h
   obtain ⟨rfl, rfl⟩ := Prod.mk.inj (Option.some.inj h)
   exact Sn.ia_tube k p L nm B line ws w0 w hB hWG hS hs Z0 hW hlen (Sn.one_word Sn.put_words (by rw [ByteArray.toList_eq]) hs hW (by decide)) (Sn.one_word Sn.all_words (by rw [ByteArray.toList_eq]) hs hW (by decide)) (Sn.one_word Sn.with_words (by rw [ByteArray.toList_eq]) hs hW (by decide)) (Sn.one_word Sn.free_words (by rw [ByteArray.toList_eq]) hs hW (by decide))
  ·rw [if_neg hlen] at h
   obtain ⟨rfl, rfl⟩ := Prod.mk.inj (Option.some.inj h)
   exact Sn.ia_tubeBad k p L nm B line ws w0 w hB hWG hS hs Z0 hW hlen (Sn.one_word Sn.put_words (by rw [ByteArray.toList_eq]) hs hW (by decide)) (Sn.one_word Sn.all_words (by rw [ByteArray.toList_eq]) hs hW (by decide)) (Sn.one_word Sn.with_words (by rw [ByteArray.toList_eq]) hs hW (by decide)) (Sn.one_word Sn.free_words (by rw [ByteArray.toList_eq]) hs hW (by decide))
 have hn_tube := hW
 clear hW
 rw [if_neg hn_tube] at h
 by_cases hW : (rdOf ByteArray.empty ws 0).toList = ([98, 111, 120] : List UInt8)
 ·rw [if_pos hW] at h
  by_cases hlen : ws.length = 7
  ·rw [if_pos hlen] at h
   obtain ⟨⟨ns, ok⟩, hk, h⟩ := Option.bind_eq_some_iff.1 h
   dsimp only at h
   cases ok with
   | false =>
    rw [if_neg (by decide)] at h
    obtain ⟨rfl, rfl⟩ := Prod.mk.inj (Option.some.inj h)
    exact Sn.ia_boxBadNum k p L nm B line ws w0 w hB hWG hS hs Z0 hW hlen (Sn.one_word Sn.put_words (by rw [ByteArray.toList_eq]) hs hW (by decide)) (Sn.one_word Sn.all_words (by rw [ByteArray.toList_eq]) hs hW (by decide)) (Sn.one_word Sn.with_words (by rw [ByteArray.toList_eq]) hs hW (by decide)) (Sn.one_word Sn.free_words (by rw [ByteArray.toList_eq]) hs hW (by decide)) ns hk
   | true =>
    rw [if_pos rfl] at h
    by_cases Z1 : 6 ≤ ns.length
    rotate_left
    ·rw [if_neg Z1] at h; cases h
    rw [if_pos Z1] at h
    obtain ⟨fine, hf, h⟩ := Option.bind_eq_some_iff.1 h
    cases fine with
    | false =>
     rw [if_neg (by simp)] at h
     obtain ⟨rfl, rfl⟩ := Prod.mk.inj (Option.some.inj h)
     exact Sn.ia_boxNo k p L nm B line ws w0 w hB hWG hS hs Z0 hW hlen (Sn.one_word Sn.put_words (by rw [ByteArray.toList_eq]) hs hW (by decide)) (Sn.one_word Sn.all_words (by rw [ByteArray.toList_eq]) hs hW (by decide)) (Sn.one_word Sn.with_words (by rw [ByteArray.toList_eq]) hs hW (by decide)) (Sn.one_word Sn.free_words (by rw [ByteArray.toList_eq]) hs hW (by decide)) ns hk Z1 hf
    | true =>
     by_cases Z2 : B.length < 40
     ·rw [if_pos ⟨rfl, Z2⟩] at h
      obtain ⟨rfl, rfl⟩ := Prod.mk.inj (Option.some.inj h)
      exact Sn.ia_boxOk k p L nm B line ws w0 w hB hWG hS hs Z0 hW hlen (Sn.one_word Sn.put_words (by rw [ByteArray.toList_eq]) hs hW (by decide)) (Sn.one_word Sn.all_words (by rw [ByteArray.toList_eq]) hs hW (by decide)) (Sn.one_word Sn.with_words (by rw [ByteArray.toList_eq]) hs hW (by decide)) (Sn.one_word Sn.free_words (by rw [ByteArray.toList_eq]) hs hW (by decide)) ns hk Z1 hf Z2
     ·rw [if_neg (fun hh => Z2 hh.2)] at h
      obtain ⟨rfl, rfl⟩ := Prod.mk.inj (Option.some.inj h)
      exact Sn.ia_boxFull k p L nm B line ws w0 w hB hWG hS hs Z0 hW hlen (Sn.one_word Sn.put_words (by rw [ByteArray.toList_eq]) hs hW (by decide)) (Sn.one_word Sn.all_words (by rw [ByteArray.toList_eq]) hs hW (by decide)) (Sn.one_word Sn.with_words (by rw [ByteArray.toList_eq]) hs hW (by decide)) (Sn.one_word Sn.free_words (by rw [ByteArray.toList_eq]) hs hW (by decide)) ns hk Z1 hf (Nat.le_of_not_lt Z2)
  ·rw [if_neg hlen] at h
   obtain ⟨rfl, rfl⟩ := Prod.mk.inj (Option.some.inj h)
   exact Sn.ia_boxBad k p L nm B line ws w0 w hB hWG hS hs Z0 hW hlen (Sn.one_word Sn.put_words (by rw [ByteArray.toList_eq]) hs hW (by decide)) (Sn.one_word Sn.all_words (by rw [ByteArray.toList_eq]) hs hW (by decide)) (Sn.one_word Sn.with_words (by rw [ByteArray.toList_eq]) hs hW (by decide)) (Sn.one_word Sn.free_words (by rw [ByteArray.toList_eq]) hs hW (by decide))
 have hn_box := hW
 clear hW
 rw [if_neg hn_box] at h
 by_cases hW : (rdOf ByteArray.empty ws 0).toList = ([100, 114, 111, 112] : List UInt8)
 ·rw [if_pos hW] at h
  by_cases hlen : ws.length = 2
  ·rw [if_pos hlen] at h
   exact Sn.ia_drop k p L nm B line ws w0 w hB hWG hS hs Z0 hW hlen (Sn.one_word Sn.put_words (by rw [ByteArray.toList_eq]) hs hW (by decide)) (Sn.one_word Sn.all_words (by rw [ByteArray.toList_eq]) hs hW (by decide)) (Sn.one_word Sn.with_words (by rw [ByteArray.toList_eq]) hs hW (by decide)) (Sn.one_word Sn.free_words (by rw [ByteArray.toList_eq]) hs hW (by decide)) r st' h
  ·rw [if_neg hlen] at h
   obtain ⟨rfl, rfl⟩ := Prod.mk.inj (Option.some.inj h)
   exact Sn.ia_dropBad k p L nm B line ws w0 w hB hWG hS hs Z0 hW hlen (Sn.one_word Sn.put_words (by rw [ByteArray.toList_eq]) hs hW (by decide)) (Sn.one_word Sn.all_words (by rw [ByteArray.toList_eq]) hs hW (by decide)) (Sn.one_word Sn.with_words (by rw [ByteArray.toList_eq]) hs hW (by decide)) (Sn.one_word Sn.free_words (by rw [ByteArray.toList_eq]) hs hW (by decide))
 have hn_drop := hW
 clear hW
 rw [if_neg hn_drop] at h
 by_cases hW : (rdOf ByteArray.empty ws 0).toList = ([109, 101, 101, 116] : List UInt8)
 ·rw [if_pos hW] at h
  by_cases hlen : ws.length = 3
  ·rw [if_pos hlen] at h
   obtain ⟨an, aB, oa, ha⟩ : ∃ an aB oa, impl_s_tube.f L (rdOf ByteArray.empty ws 1) = (an, aB, oa) := ⟨_, _, _, rfl⟩
   obtain ⟨bn_, bB, ob, hb_⟩ : ∃ bn_ bB ob, impl_s_tube.f L (rdOf ByteArray.empty ws 2) = (bn_, bB, ob) := ⟨_, _, _, rfl⟩
   rw [ha, hb_] at h
   dsimp only at h
   cases oa with
   | false =>
    rw [if_neg (by simp)] at h
    obtain ⟨rfl, rfl⟩ := Prod.mk.inj (Option.some.inj h)
    cases ob with
    | false => exact Sn.ia_meetNone3 k p L nm B line ws w0 w hB hWG hS hs Z0 hW hlen (Sn.one_word Sn.put_words (by rw [ByteArray.toList_eq]) hs hW (by decide)) (Sn.one_word Sn.all_words (by rw [ByteArray.toList_eq]) hs hW (by decide)) (Sn.one_word Sn.with_words (by rw [ByteArray.toList_eq]) hs hW (by decide)) (Sn.one_word Sn.free_words (by rw [ByteArray.toList_eq]) hs hW (by decide)) an bn_ aB bB ha hb_
    | true => exact Sn.ia_meetNone1 k p L nm B line ws w0 w hB hWG hS hs Z0 hW hlen (Sn.one_word Sn.put_words (by rw [ByteArray.toList_eq]) hs hW (by decide)) (Sn.one_word Sn.all_words (by rw [ByteArray.toList_eq]) hs hW (by decide)) (Sn.one_word Sn.with_words (by rw [ByteArray.toList_eq]) hs hW (by decide)) (Sn.one_word Sn.free_words (by rw [ByteArray.toList_eq]) hs hW (by decide)) an bn_ aB bB ha hb_
   | true =>
    cases ob with
    | false =>
     rw [if_neg (by simp)] at h
     obtain ⟨rfl, rfl⟩ := Prod.mk.inj (Option.some.inj h)
     exact Sn.ia_meetNone2 k p L nm B line ws w0 w hB hWG hS hs Z0 hW hlen (Sn.one_word Sn.put_words (by rw [ByteArray.toList_eq]) hs hW (by decide)) (Sn.one_word Sn.all_words (by rw [ByteArray.toList_eq]) hs hW (by decide)) (Sn.one_word Sn.with_words (by rw [ByteArray.toList_eq]) hs hW (by decide)) (Sn.one_word Sn.free_words (by rw [ByteArray.toList_eq]) hs hW (by decide)) an bn_ aB bB ha hb_
    | true =>
     rw [if_pos ⟨rfl, rfl⟩] at h
     obtain ⟨⟨Z1, Z2, Z3, Z4, Z5, near⟩, hm, h⟩ := Option.bind_eq_some_iff.1 h
     dsimp only at h
     cases near with
     | false =>
      rw [if_neg (by decide)] at h
      obtain ⟨rfl, rfl⟩ := Prod.mk.inj (Option.some.inj h)
      exact Sn.ia_meetNever k p L nm B line ws w0 w hB hWG hS hs Z0 hW hlen (Sn.one_word Sn.put_words (by rw [ByteArray.toList_eq]) hs hW (by decide)) (Sn.one_word Sn.all_words (by rw [ByteArray.toList_eq]) hs hW (by decide)) (Sn.one_word Sn.with_words (by rw [ByteArray.toList_eq]) hs hW (by decide)) (Sn.one_word Sn.free_words (by rw [ByteArray.toList_eq]) hs hW (by decide)) an bn_ aB bB ha hb_ Z1 Z2 Z3 Z4 Z5 hm
     | true =>
      rw [if_pos rfl] at h
      obtain ⟨Z6, hr, h⟩ := Option.bind_eq_some_iff.1 h
      obtain ⟨rfl, rfl⟩ := Prod.mk.inj (Option.some.inj h)
      exact Sn.ia_meet k p L nm B line ws w0 w hB hWG hS hs Z0 hW hlen (Sn.one_word Sn.put_words (by rw [ByteArray.toList_eq]) hs hW (by decide)) (Sn.one_word Sn.all_words (by rw [ByteArray.toList_eq]) hs hW (by decide)) (Sn.one_word Sn.with_words (by rw [ByteArray.toList_eq]) hs hW (by decide)) (Sn.one_word Sn.free_words (by rw [ByteArray.toList_eq]) hs hW (by decide)) an bn_ aB bB ha hb_ Z1 Z2 Z3 Z4 Z5 hm _ hr
  ·rw [if_neg hlen] at h
   obtain ⟨rfl, rfl⟩ := Prod.mk.inj (Option.some.inj h)
   exact Sn.ia_meetBad k p L nm B line ws w0 w hB hWG hS hs Z0 hW hlen (Sn.one_word Sn.put_words (by rw [ByteArray.toList_eq]) hs hW (by decide)) (Sn.one_word Sn.all_words (by rw [ByteArray.toList_eq]) hs hW (by decide)) (Sn.one_word Sn.with_words (by rw [ByteArray.toList_eq]) hs hW (by decide)) (Sn.one_word Sn.free_words (by rw [ByteArray.toList_eq]) hs hW (by decide))
 have hn_meet := hW
 clear hW
 rw [if_neg hn_meet] at h
 by_cases hW : (rdOf ByteArray.empty ws 0).toList = ([99, 117, 116] : List UInt8)
 ·rw [if_pos hW] at h
  by_cases hlen : ws.length = 2
  ·rw [if_pos hlen] at h
   obtain ⟨⟨n, ok⟩, hd, h⟩ := Option.bind_eq_some_iff.1 h
   dsimp only at h
   cases ok with
   | false =>
    rw [if_neg (by decide)] at h
    obtain ⟨rfl, rfl⟩ := Prod.mk.inj (Option.some.inj h)
    exact Sn.ia_cutNo k p L nm B line ws w0 w hB hWG hS hs Z0 hW hlen (Sn.one_word Sn.put_words (by rw [ByteArray.toList_eq]) hs hW (by decide)) (Sn.one_word Sn.all_words (by rw [ByteArray.toList_eq]) hs hW (by decide)) (Sn.one_word Sn.with_words (by rw [ByteArray.toList_eq]) hs hW (by decide)) (Sn.one_word Sn.free_words (by rw [ByteArray.toList_eq]) hs hW (by decide)) n hd
   | true =>
    rw [if_pos rfl] at h
    obtain ⟨⟨cn, cB⟩, hcu, h⟩ := Option.bind_eq_some_iff.1 h
    obtain ⟨Z1, hi, h⟩ := Option.bind_eq_some_iff.1 h
    obtain ⟨rfl, rfl⟩ := Prod.mk.inj (Option.some.inj h)
    exact Sn.ia_cut k p L nm B line ws w0 w hB hWG hS hs Z0 hW hlen (Sn.one_word Sn.put_words (by rw [ByteArray.toList_eq]) hs hW (by decide)) (Sn.one_word Sn.all_words (by rw [ByteArray.toList_eq]) hs hW (by decide)) (Sn.one_word Sn.with_words (by rw [ByteArray.toList_eq]) hs hW (by decide)) (Sn.one_word Sn.free_words (by rw [ByteArray.toList_eq]) hs hW (by decide)) n hd cn cB hcu _ hi
  ·rw [if_neg hlen] at h
   obtain ⟨rfl, rfl⟩ := Prod.mk.inj (Option.some.inj h)
   exact Sn.ia_cutBad k p L nm B line ws w0 w hB hWG hS hs Z0 hW hlen (Sn.one_word Sn.put_words (by rw [ByteArray.toList_eq]) hs hW (by decide)) (Sn.one_word Sn.all_words (by rw [ByteArray.toList_eq]) hs hW (by decide)) (Sn.one_word Sn.with_words (by rw [ByteArray.toList_eq]) hs hW (by decide)) (Sn.one_word Sn.free_words (by rw [ByteArray.toList_eq]) hs hW (by decide))
 have hn_cut := hW
 clear hW
 rw [if_neg hn_cut] at h
 by_cases hl : line.toList = ([112, 117, 116] : List UInt8)
 ·rw [if_pos hl] at h
  obtain ⟨cp, hcp, h⟩ := Option.bind_eq_some_iff.1 h
  exact Sn.ia_put k p L nm B line ws w0 w hB hWG hS hs Z0 hn_tube hn_box hn_drop hn_meet hn_cut hl cp hcp r st' h
 have hl_put := hl
 clear hl
 rw [if_neg hl_put] at h
 by_cases hl : line.toList = ([97, 108, 108] : List UInt8)
 ·rw [if_pos hl] at h
  obtain ⟨cl, hcl, h⟩ := Option.bind_eq_some_iff.1 h
  obtain ⟨Z1, hr, h⟩ := Option.bind_eq_some_iff.1 h
  obtain ⟨rfl, rfl⟩ := Prod.mk.inj (Option.some.inj h)
  exact Sn.ia_all k p L nm B line ws w0 w hB hWG hS hs Z0 hn_tube hn_box hn_drop hn_meet hn_cut hl cl hcl _ hr
 have hl_all := hl
 clear hl
 rw [if_neg hl_all] at h
 by_cases hl : line.toList = ([119, 105, 116, 104] : List UInt8)
 ·rw [if_pos hl] at h
  obtain ⟨cl, hcl, h⟩ := Option.bind_eq_some_iff.1 h
  obtain ⟨Z1, hr, h⟩ := Option.bind_eq_some_iff.1 h
  obtain ⟨rfl, rfl⟩ := Prod.mk.inj (Option.some.inj h)
  exact Sn.ia_with k p L nm B line ws w0 w hB hWG hS hs Z0 hn_tube hn_box hn_drop hn_meet hn_cut hl cl hcl _ hr
 have hl_with := hl
 clear hl
 rw [if_neg hl_with] at h
 by_cases hl : line.toList = ([102, 114, 101, 101] : List UInt8)
 ·rw [if_pos hl] at h
  obtain ⟨b, hb, h⟩ := Option.bind_eq_some_iff.1 h
  cases b with
  | false =>
   rw [if_neg (by decide)] at h
   obtain ⟨rfl, rfl⟩ := Prod.mk.inj (Option.some.inj h)
   exact Sn.ia_free_false k p L nm B line ws w0 w hB hWG hS hs Z0 hn_tube hn_box hn_drop hn_meet hn_cut hl hb
  | true =>
   rw [if_pos rfl] at h
   obtain ⟨rfl, rfl⟩ := Prod.mk.inj (Option.some.inj h)
   exact Sn.ia_free_true k p L nm B line ws w0 w hB hWG hS hs Z0 hn_tube hn_box hn_drop hn_meet hn_cut hl hb
 have hl_free := hl
 clear hl
 rw [if_neg hl_free] at h
 obtain ⟨rfl, rfl⟩ := Prod.mk.inj (Option.some.inj h)
 exact Sn.ia_bad k p L nm B line ws w0 w hB hWG hS hs Z0 hn_tube hn_box hn_drop hn_meet hn_cut hl_put hl_all hl_with hl_free
def impl_s_run.f (k : Nat) : List ByteArray → Sx → ByteArray → Option ByteArray
 | [], _, out => some out
 | l :: ls, st, out => (impl_s_answer.f k st l).bind fun pr => if pr.1.size + 1 ≤ 9223372036854775807 ∧ out.size + (pr.1.size + 1) ≤ 9223372036854775807 then impl_s_run.f k ls pr.2 (out ++ (pr.1 ++ (⟨#[10]⟩ : ByteArray))) else none
def impl_ProbeSession.f (k : Nat) (text : ByteArray) : Option ByteArray := (Lb.split.f text (⟨#[10]⟩ : ByteArray)).bind fun ls0 => if 0 < ls0.length then (if 20000 < text.size ∨ 400 < (Sn.trim ls0).length then some (⟨#[116, 111, 111, 32, 108, 111, 110, 103, 10]⟩ : ByteArray) else impl_s_run.f k (Sn.trim ls0) (([], (⟨#[]⟩ : ByteArray), []) : Sx) (⟨#[]⟩ : ByteArray)) else none
theorem impl_ProbeSession.calls (k : Nat) (text r : ByteArray) (w : World) (hWG : Lb.WG w) (h : impl_ProbeSession.f k text = some r) :
  Calls Tryz.prog 6 #[.string text] w fun e w' => e = .returned (.string r) ∧ Below w.heap.size w w' := by
 unfold impl_ProbeSession.f at h
 obtain ⟨Z0, hs, h⟩ := Option.bind_eq_some_iff.1 h
 by_cases Z1 : 0 < Z0.length
 rotate_left
 ·rw [if_neg Z1] at h; cases h
 rw [if_pos Z1] at h
 obtain ⟨m, hm⟩ : ∃ m, Z0.length = m + 1 := ⟨Z0.length - 1, by omega⟩
 have Z2 : Z0.length - 1 = m := by omega
 have Z3 := Tryz.underlying40; have Z4 := Tryz.underlying33
 have HS := ra hs; have HWG := ra hWG; have HB := ra (Below.refl w.heap.size w); have HM := ra hm
 clear hs hWG
 have Z5 : (0 : Int) ≤ (m : Int) := by omega
 have Z6 : (m : Int) < (Z0.length : Int) := by omega
 have fw : ∀ x : Nat, Z0.length ≤ x → Z0.length ≤ 9223372036854775807 → wrap64 ((Z0.length : Int) - 1) = (m : Int) := by intro x _ _; unfold wrap64; omega
 by_cases he : (rdOf ByteArray.empty Z0 (m : Int)).toList = ([] : List UInt8)
 ·have ht : Sn.trim Z0 = Z0.take m := by unfold Sn.trim; rw [Z2, if_pos he]
  rw [ht] at h
  clear ht
  rw [show (Z0.take m).length = m from by rw [List.length_take]; omega] at h
  by_cases cz : 20000 < text.size
  ·rw [if_pos (Or.inl cz)] at h
   obtain rfl := Option.some.inj h
   have ce : ((rdOf ByteArray.empty Z0 (m : Int)).toList == []) = true := beq_iff_eq.mpr he
   have cs : decide ((20000 : Int) < (text.size : Int)) = true := decide_eq_true (by omega)
   replace Z5 := eq_true Z5; replace Z6 := eq_true Z6
   clear he h
   clear hm Z2 cz
   go_enter Tryz.func6, Tryz.ntmps6
   go_wp2_with (first | ((with_reducible refine gc 10 rfl ?_); refine gm (some 9) Tryz.func10 (Lb.split.calls _ _ _ _ HWG.out HS.out) ?_; rintro e Z7 ⟨Z8, rfl, Z9, hb⟩; obtain ⟨Al, cl, rfl, hll, hCl⟩ := Kd.R_reads Z9; refine ⟨_, rfl, ?_⟩; have Z10 := ra hb; have Z11 := ra (Lb.wg_below HWG.out hb); clear HB HWG; have HB := ra (Below.refl Z7.heap.size Z7); obtain ⟨adl, el, Z12⟩ := Kd.at_string hCl (m : Int) (by omega) (by have := HM.out; omega); cases el; simp only [Int.toNat_natCast] at Z12; have hfw := fw cl hll (Kd.C_max hCl); have HR := ra hCl; have HLL := ra hll; clear hb Z9 hCl hll fw; obtain ⟨Z13, Z14, _, hsz_, _⟩ := info_parts info9; have hcut := cut_to (P := Tryz.prog) 27 9 .i64 Tryz.underlying27 Z14 (some adl) Z0.length cl (m : Int) (by omega) (by have := HM.out; omega) HLL.out; simp only [Int.toNat_natCast] at hcut))
   go_ret
   exact ⟨re, below_step Z10.out bq⟩
  by_cases cm : 400 < m
  ·rw [if_pos (Or.inr cm)] at h
   obtain rfl := Option.some.inj h
   have ce : ((rdOf ByteArray.empty Z0 (m : Int)).toList == []) = true := beq_iff_eq.mpr he
   have cs : decide ((20000 : Int) < (text.size : Int)) = false := decide_eq_false (by omega)
   have cn : decide ((400 : Int) < (m : Int)) = true := decide_eq_true (by omega)
   replace Z5 := eq_true Z5; replace Z6 := eq_true Z6
   clear he h
   clear hm Z2 cz cm
   go_enter Tryz.func6, Tryz.ntmps6
   go_wp2_with (first | ((with_reducible refine gc 10 rfl ?_); refine gm (some 9) Tryz.func10 (Lb.split.calls _ _ _ _ HWG.out HS.out) ?_; rintro e Z7 ⟨Z8, rfl, Z9, hb⟩; obtain ⟨Al, cl, rfl, hll, hCl⟩ := Kd.R_reads Z9; refine ⟨_, rfl, ?_⟩; have Z10 := ra hb; have Z11 := ra (Lb.wg_below HWG.out hb); clear HB HWG; have HB := ra (Below.refl Z7.heap.size Z7); obtain ⟨adl, el, Z12⟩ := Kd.at_string hCl (m : Int) (by omega) (by have := HM.out; omega); cases el; simp only [Int.toNat_natCast] at Z12; have hfw := fw cl hll (Kd.C_max hCl); have HR := ra hCl; have HLL := ra hll; clear hb Z9 hCl hll fw; obtain ⟨Z13, Z14, _, hsz_, _⟩ := info_parts info9; have hcut := cut_to (P := Tryz.prog) 27 9 .i64 Tryz.underlying27 Z14 (some adl) Z0.length cl (m : Int) (by omega) (by have := HM.out; omega) HLL.out; simp only [Int.toNat_natCast] at hcut))
   go_ret
   exact ⟨re, below_step Z10.out bq⟩
  rw [if_neg (by omega)] at h
  have ce : ((rdOf ByteArray.empty Z0 (m : Int)).toList == []) = true := beq_iff_eq.mpr he
  have cs : decide ((20000 : Int) < (text.size : Int)) = false := decide_eq_false (by omega)
  have cn : decide ((400 : Int) < (m : Int)) = false := decide_eq_false (by omega)
  replace Z5 := eq_true Z5; replace Z6 := eq_true Z6
  have HRUN := ra h
  clear he h
  clear hm Z2 cz cm
  go_enter Tryz.func6, Tryz.ntmps6
  go_wp2_with (first | ((with_reducible refine gc 10 rfl ?_); refine gm (some 9) Tryz.func10 (Lb.split.calls _ _ _ _ HWG.out HS.out) ?_; rintro e Z7 ⟨Z8, rfl, Z9, hb⟩; obtain ⟨Al, cl, rfl, hll, hCl⟩ := Kd.R_reads Z9; refine ⟨_, rfl, ?_⟩; have Z10 := ra hb; have Z11 := ra (Lb.wg_below HWG.out hb); clear HB HWG; have HB := ra (Below.refl Z7.heap.size Z7); obtain ⟨adl, el, Z12⟩ := Kd.at_string hCl (m : Int) (by omega) (by have := HM.out; omega); cases el; simp only [Int.toNat_natCast] at Z12; have hfw := fw cl hll (Kd.C_max hCl); have HR := ra hCl; have HLL := ra hll; clear hb Z9 hCl hll fw; obtain ⟨Z13, Z14, _, hsz_, _⟩ := info_parts info9; have hcut := cut_to (P := Tryz.prog) 27 9 .i64 Tryz.underlying27 Z14 (some adl) Z0.length cl (m : Int) (by omega) (by have := HM.out; omega) HLL.out; simp only [Int.toNat_natCast] at hcut) | ((with_reducible refine gd 31 rfl ?_); refine be 31 #[.slice none 0 0, .string (⟨#[]⟩ : ByteArray), .slice none 0 0] 40 ?_; intro g hg Z15 hbox hb; have BKg := ra hbox; have GEg := bz (w0 := Z7) hg; replace HB := bs hb; clear hb hbox hg))
  clear Z12
  have hlen : m = (Z0.take m).length := by rw [List.length_take]; have := HM.out; omega
  have HLEN := ra hlen
  have hrow := Kd.C_take (m := m) HR.out (by have := HM.out; omega)
  obtain ⟨ls, hls⟩ : ∃ ls, ls = (Z0.take m) := ⟨_, rfl⟩
  rw [← hls] at hrow hlen HLEN HRUN
  have HROW := ra hrow
  clear hrow HR hls hlen
  go_loopg [5, 34] m (fun kq v5 v34 w' => ∃ (i : Nat) (out : ByteArray) (s1 : List S33) (s2 : ByteArray) (s3 : List S46), v34 = .int .i64 (i : Int) ∧ v5 = .string out ∧ Aside0 (i + kq = m) ∧ Aside0 (impl_s_run.f k (ls.drop i) (s1, s2, s3) out = some r) ∧ Aside0 (St 40 w' Z7.heap.size g s1 s2 s3) ∧ Aside0 (Below Z7.heap.size Z7 w'))
  case atStart => exact ⟨0, (⟨#[]⟩ : ByteArray), [], (⟨#[]⟩ : ByteArray), [], rfl, rfl, ⟨by simp⟩, ⟨HRUN.out⟩, ⟨Sn.mk (bk BKg) (Kd.S_nil _ _ _ _ _) (Kd.R_nil _ _ _ _ _) GEg.out⟩, ⟨bq⟩⟩
  case round =>
   clear BKg HRUN HB
   obtain ⟨i, out, Z16, Z17, Z18, rfl, rfl, HI, HRUN, HST, HB⟩ := hrel
   rcases Nat.lt_or_ge i m with hi | hi
   ·have hil : i < ls.length := by have := HLEN.out; omega
    have h := HRUN.out
    rw [List.drop_eq_getElem_cons hil, ← Sn.rd_str hil] at h
    unfold impl_s_run.f at h
    obtain ⟨⟨a, st'⟩, ha, h⟩ := Option.bind_eq_some_iff.1 h
    dsimp only at h
    by_cases hz : a.size + 1 ≤ 9223372036854775807 ∧ out.size + (a.size + 1) ≤ 9223372036854775807
    rotate_left
    ·rw [if_neg hz] at h; cases h
    rw [if_pos hz] at h
    have Z19 := eq_true hz.1
    have Z20 := eq_true hz.2
    have Z21 : (9223372036854775807 < a.size + 1) = False := eq_false (Nat.not_lt.2 hz.1)
    have Z22 : (9223372036854775807 < out.size + (a.size + 1)) = False := eq_false (Nat.not_lt.2 hz.2)
    have HA := ra ha
    have HRN := ra h
    clear HRUN ha h hz
    have Z23 : decide ((i : Int) < (m : Int)) = true := decide_eq_true (by omega)
    have Z24 : (0 ≤ (i : Int)) = True := eq_true (by omega)
    have Z25 : ((i : Int) < (m : Int)) = True := eq_true (by omega)
    have hrw := HROW.out
    obtain ⟨_, el, Z26⟩ := Kd.at_string hrw (i : Int) (by omega) (by have := HLEN.out; omega)
    cases el
    replace Z26 := hc HB Z26
    simp only [Int.toNat_natCast] at Z26
    clear hrw
    have HIL := ra hi
    clear hi hil
    go_wp2_with (first | ((with_reducible refine gc 11 rfl ?_); refine gy (some 41) Tryz.func11 (impl_s_answer.calls _ _ _ _ _ _ _ _ _ _ HB.out Z11.out HST.out HA.out) ?_; rintro Z27 ⟨hst, hb⟩; clear Z26 HST HB; have HST := ra hst; have HB := ra hb; clear hst hb))
    go_roundg (gk - 1)
    case measure => have := HI.out; have := HIL.out; omega
    case rel => exact ⟨i + 1, out ++ (a ++ (⟨#[10]⟩ : ByteArray)), st'.1, st'.2.1, st'.2.2, by (have Z28 : wrap64 ((i : Int) + 1) = ((i + 1 : Nat) : Int) := by (have := HIL.out; have := HLEN.out; have := Kd.C_max HROW.out; unfold wrap64; omega)); first | exact Z28 ▸ rfl | (simp [Z28]; done) | (rw [Z28]), rfl, ⟨by have := HI.out; have := HIL.out; omega⟩, ⟨HRN.out⟩, ⟨HST.out⟩, ⟨HB.out⟩⟩
   ·have Z19 : decide ((i : Int) < (m : Int)) = false := decide_eq_false (by omega)
    have h := HRUN.out
    rw [List.drop_eq_nil_of_le (by have := HLEN.out; omega)] at h
    unfold impl_s_run.f at h
    obtain rfl := Option.some.inj h
    clear HRUN h
    go_wp2
    go_ret
    exact ⟨re, below_step Z10.out bq⟩
 ·have ht : Sn.trim Z0 = Z0 := by unfold Sn.trim; rw [Z2, if_neg he]
  rw [ht] at h
  clear ht
  by_cases cz : 20000 < text.size
  ·rw [if_pos (Or.inl cz)] at h
   obtain rfl := Option.some.inj h
   have ce : ((rdOf ByteArray.empty Z0 (m : Int)).toList == []) = false := beq_eq_false_iff_ne.mpr he
   have cs : decide ((20000 : Int) < (text.size : Int)) = true := decide_eq_true (by omega)
   replace Z5 := eq_true Z5; replace Z6 := eq_true Z6
   clear he h
   clear hm Z2 cz
   go_enter Tryz.func6, Tryz.ntmps6
   go_wp2_with (first | ((with_reducible refine gc 10 rfl ?_); refine gm (some 9) Tryz.func10 (Lb.split.calls _ _ _ _ HWG.out HS.out) ?_; rintro e Z7 ⟨Z8, rfl, Z9, hb⟩; obtain ⟨Al, cl, rfl, hll, hCl⟩ := Kd.R_reads Z9; refine ⟨_, rfl, ?_⟩; have Z10 := ra hb; have Z11 := ra (Lb.wg_below HWG.out hb); clear HB HWG; have HB := ra (Below.refl Z7.heap.size Z7); obtain ⟨adl, el, Z12⟩ := Kd.at_string hCl (m : Int) (by omega) (by have := HM.out; omega); cases el; simp only [Int.toNat_natCast] at Z12; have hfw := fw cl hll (Kd.C_max hCl); have HR := ra hCl; have HLL := ra hll; clear hb Z9 hCl hll fw; skip))
   go_ret
   exact ⟨re, below_step Z10.out bq⟩
  by_cases cm : 400 < Z0.length
  ·rw [if_pos (Or.inr cm)] at h
   obtain rfl := Option.some.inj h
   have ce : ((rdOf ByteArray.empty Z0 (m : Int)).toList == []) = false := beq_eq_false_iff_ne.mpr he
   have cs : decide ((20000 : Int) < (text.size : Int)) = false := decide_eq_false (by omega)
   have cn : decide ((400 : Int) < (Z0.length : Int)) = true := decide_eq_true (by omega)
   replace Z5 := eq_true Z5; replace Z6 := eq_true Z6
   clear he h
   clear hm Z2 cz cm
   go_enter Tryz.func6, Tryz.ntmps6
   go_wp2_with (first | ((with_reducible refine gc 10 rfl ?_); refine gm (some 9) Tryz.func10 (Lb.split.calls _ _ _ _ HWG.out HS.out) ?_; rintro e Z7 ⟨Z8, rfl, Z9, hb⟩; obtain ⟨Al, cl, rfl, hll, hCl⟩ := Kd.R_reads Z9; refine ⟨_, rfl, ?_⟩; have Z10 := ra hb; have Z11 := ra (Lb.wg_below HWG.out hb); clear HB HWG; have HB := ra (Below.refl Z7.heap.size Z7); obtain ⟨adl, el, Z12⟩ := Kd.at_string hCl (m : Int) (by omega) (by have := HM.out; omega); cases el; simp only [Int.toNat_natCast] at Z12; have hfw := fw cl hll (Kd.C_max hCl); have HR := ra hCl; have HLL := ra hll; clear hb Z9 hCl hll fw; skip))
   go_ret
   exact ⟨re, below_step Z10.out bq⟩
  rw [if_neg (by omega)] at h
  have ce : ((rdOf ByteArray.empty Z0 (m : Int)).toList == []) = false := beq_eq_false_iff_ne.mpr he
  have cs : decide ((20000 : Int) < (text.size : Int)) = false := decide_eq_false (by omega)
  have cn : decide ((400 : Int) < (Z0.length : Int)) = false := decide_eq_false (by omega)
  replace Z5 := eq_true Z5; replace Z6 := eq_true Z6
  have HRUN := ra h
  clear he h
  clear hm Z2 cz cm
  go_enter Tryz.func6, Tryz.ntmps6
  go_wp2_with (first | ((with_reducible refine gc 10 rfl ?_); refine gm (some 9) Tryz.func10 (Lb.split.calls _ _ _ _ HWG.out HS.out) ?_; rintro e Z7 ⟨Z8, rfl, Z9, hb⟩; obtain ⟨Al, cl, rfl, hll, hCl⟩ := Kd.R_reads Z9; refine ⟨_, rfl, ?_⟩; have Z10 := ra hb; have Z11 := ra (Lb.wg_below HWG.out hb); clear HB HWG; have HB := ra (Below.refl Z7.heap.size Z7); obtain ⟨adl, el, Z12⟩ := Kd.at_string hCl (m : Int) (by omega) (by have := HM.out; omega); cases el; simp only [Int.toNat_natCast] at Z12; have hfw := fw cl hll (Kd.C_max hCl); have HR := ra hCl; have HLL := ra hll; clear hb Z9 hCl hll fw; skip) | ((with_reducible refine gd 31 rfl ?_); refine be 31 #[.slice none 0 0, .string (⟨#[]⟩ : ByteArray), .slice none 0 0] 40 ?_; intro g hg Z13 hbox hb; have BKg := ra hbox; have GEg := bz (w0 := Z7) hg; replace HB := bs hb; clear hb hbox hg))
  clear Z12
  have hlen : Z0.length = Z0.length := by rfl
  have HLEN := ra hlen
  have hrow := HR.out
  have HROW := ra hrow
  clear hrow HR hlen
  go_loopg [5, 34] Z0.length (fun kq v5 v34 w' => ∃ (i : Nat) (out : ByteArray) (s1 : List S33) (s2 : ByteArray) (s3 : List S46), v34 = .int .i64 (i : Int) ∧ v5 = .string out ∧ Aside0 (i + kq = Z0.length) ∧ Aside0 (impl_s_run.f k (Z0.drop i) (s1, s2, s3) out = some r) ∧ Aside0 (St 40 w' Z7.heap.size g s1 s2 s3) ∧ Aside0 (Below Z7.heap.size Z7 w'))
  case atStart => exact ⟨0, (⟨#[]⟩ : ByteArray), [], (⟨#[]⟩ : ByteArray), [], rfl, rfl, ⟨by simp⟩, ⟨HRUN.out⟩, ⟨Sn.mk (bk BKg) (Kd.S_nil _ _ _ _ _) (Kd.R_nil _ _ _ _ _) GEg.out⟩, ⟨bq⟩⟩
  case round =>
   clear BKg HRUN HB
   obtain ⟨i, out, Z14, Z15, Z16, rfl, rfl, HI, HRUN, HST, HB⟩ := hrel
   rcases Nat.lt_or_ge i Z0.length with hi | hi
   ·have hil : i < Z0.length := by have := HLEN.out; omega
    have h := HRUN.out
    rw [List.drop_eq_getElem_cons hil, ← Sn.rd_str hil] at h
    unfold impl_s_run.f at h
    obtain ⟨⟨a, st'⟩, ha, h⟩ := Option.bind_eq_some_iff.1 h
    dsimp only at h
    by_cases hz : a.size + 1 ≤ 9223372036854775807 ∧ out.size + (a.size + 1) ≤ 9223372036854775807
    rotate_left
    ·rw [if_neg hz] at h; cases h
    rw [if_pos hz] at h
    have Z17 := eq_true hz.1
    have Z18 := eq_true hz.2
    have Z19 : (9223372036854775807 < a.size + 1) = False := eq_false (Nat.not_lt.2 hz.1)
    have Z20 : (9223372036854775807 < out.size + (a.size + 1)) = False := eq_false (Nat.not_lt.2 hz.2)
    have HA := ra ha
    have HRN := ra h
    clear HRUN ha h hz
    have Z21 : decide ((i : Int) < (Z0.length : Int)) = true := decide_eq_true (by omega)
    have Z22 : (0 ≤ (i : Int)) = True := eq_true (by omega)
    have Z23 : ((i : Int) < (Z0.length : Int)) = True := eq_true (by omega)
    have hrw := HROW.out
    obtain ⟨_, el, Z24⟩ := Kd.at_string hrw (i : Int) (by omega) (by have := HLEN.out; omega)
    cases el
    replace Z24 := hc HB Z24
    simp only [Int.toNat_natCast] at Z24
    clear hrw
    have HIL := ra hi
    clear hi hil
    go_wp2_with (first | ((with_reducible refine gc 11 rfl ?_); refine gy (some 41) Tryz.func11 (impl_s_answer.calls _ _ _ _ _ _ _ _ _ _ HB.out Z11.out HST.out HA.out) ?_; rintro Z25 ⟨hst, hb⟩; clear Z24 HST HB; have HST := ra hst; have HB := ra hb; clear hst hb))
    go_roundg (gk - 1)
    case measure => have := HI.out; have := HIL.out; omega
    case rel => exact ⟨i + 1, out ++ (a ++ (⟨#[10]⟩ : ByteArray)), st'.1, st'.2.1, st'.2.2, by (have Z26 : wrap64 ((i : Int) + 1) = ((i + 1 : Nat) : Int) := by (have := HIL.out; have := HLEN.out; have := Kd.C_max HROW.out; unfold wrap64; omega)); first | exact Z26 ▸ rfl | (simp [Z26]; done) | (rw [Z26]), rfl, ⟨by have := HI.out; have := HIL.out; omega⟩, ⟨HRN.out⟩, ⟨HST.out⟩, ⟨HB.out⟩⟩
   ·have Z17 : decide ((i : Int) < (Z0.length : Int)) = false := decide_eq_false (by omega)
    have h := HRUN.out
    rw [List.drop_eq_nil_of_le (by have := HLEN.out; omega)] at h
    unfold impl_s_run.f at h
    obtain rfl := Option.some.inj h
    clear HRUN h
    go_wp2
    go_ret
    exact ⟨re, below_step Z10.out bq⟩
def laws_FnExactProbeSession.f (k : Nat) (text : ByteArray) : Option Bool := if 1048576 < text.size then some true else (spec_ProbeSession.f k text).bind fun w0 => (impl_ProbeSession.f k text).bind fun g0 => some (decide (g0.toList = w0.toList))
theorem laws_FnExactProbeSession.calls (k : Nat) (text : ByteArray) (w : World) (hWG : Lb.WG w) (h : laws_FnExactProbeSession.f k text = some true) :
  Calls Tryz.prog 3 #[.string text] w fun e w' => e = .returned (.bool true) ∧ Below w.heap.size w w' := by
 unfold laws_FnExactProbeSession.f at h
 have HWG := ra hWG; have HB := ra (Below.refl w.heap.size w)
 clear hWG
 by_cases hc : 1048576 < text.size
 ·clear h
  have cb_ : decide ((1048576 : Int) < (text.size : Int)) = true := decide_eq_true (by omega)
  clear hc
  go_enter Tryz.func3, Tryz.ntmps3
  go_wp2
  go_ret
  exact ⟨re, bq⟩
 rw [if_neg hc] at h
 have cb_ : decide ((1048576 : Int) < (text.size : Int)) = false := decide_eq_false (by omega)
 clear hc
 obtain ⟨Z0, hw, h⟩ := Option.bind_eq_some_iff.1 h
 obtain ⟨Z1, hg, h⟩ := Option.bind_eq_some_iff.1 h
 have he : (Z1.toList == Z0.toList) = true := beq_iff_eq.mpr (of_decide_eq_true (Option.some.inj h))
 have HW := ra hw; have HG := ra hg
 clear h hw hg
 go_enter Tryz.func3, Tryz.ntmps3
 go_wp2_with (first | ((with_reducible refine gc 5 rfl ?_); refine gy (some 9) Tryz.func5 (spec_ProbeSession.calls _ _ _ _ (Lb.wg HWG) HW.out) ?_; rintro Z2 hb; have _ := bs hb; clear HB hb; rename_i HB) | ((with_reducible refine gc 6 rfl ?_); refine gy (some 11) Tryz.func6 (impl_ProbeSession.calls _ _ _ _ (Lb.wg HWG) HG.out) ?_; rintro Z3 hb; have _ := bs hb; clear HB hb; rename_i HB))
 go_ret
 exact ⟨re, bq⟩
end Go.Proofs.YtjelgpmhbaiipaaGreatDoor.PA
end
