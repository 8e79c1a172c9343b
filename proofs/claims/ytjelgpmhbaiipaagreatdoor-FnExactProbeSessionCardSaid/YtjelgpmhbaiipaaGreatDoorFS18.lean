/- Walks of the session's methods. No condition beside what the Lean functions say. -/
import Derived.Test.YtjelgpmhbaiipaaGreatDoorFZCv2
import Derived.Test.YtjelgpmhbaiipaaGreatDoorFS14
import Derived.Test.YtjelgpmhbaiipaaGreatDoorFG17
import Derived.Test.YtjelgpmhbaiipaaGreatDoorFS16
section
namespace Go.Proofs.YtjelgpmhbaiipaaGreatDoor.PA
open Go.RowKit Go.Proofs.YtjelgpmhbaiipaaGreatDoorW.PrintWords Go.Proofs.YtjelgpmhbaiipaaGreatDoorW.PrintLast Go.Proofs.YtjelgpmhbaiipaaGreatDoorW.PrintMore Go.Proofs.YtjelgpmhbaiipaaGreatDoor.Z
attribute [local go_sem] max2_int min2_int max_two min_two max_three min_three max_four min_four
set_option linter.unusedVariables false
set_option maxHeartbeats 8000000
set_option maxRecDepth 100000
set_option linter.unusedSimpArgs false
theorem Sn.sl_cut (k p : Nat) (L : List S33) (nm : ByteArray) (B : List S46) (Aw : Option Addr) (cw : Nat) (ws : List ByteArray) (a6 a1 : List Int) (o6 : Bool) (w0 w : World) (hB : Below w0.heap.size w0 w) (hWG : Lb.WG w0) (hS : St 35 w w0.heap.size p L nm B) (hrw : Kd.C Kd.string w Aw ws.length ws) (hcw : ws.length ≤ cw) (h0 : 0 < ws.length) (h6 : spec_l7Numbers.f k (ws.drop 1) 6 = some (a6, o6)) (h1 : spec_l7Numbers.f k (ws.drop 1) 1 = some (a1, true)) (hW : (rdOf ByteArray.empty ws 0).toList = [99, 117, 116]) (hn1 : 0 < a1.length) (cn_ : ByteArray) (cB : List S46) (hcu : spec_ProbeCut.f k nm B (rd a1 0) = some (cn_, cB)) (r : ByteArray) (hi : spec_l7Dec.f k (cB.length : Int) = some r) :
  Calls Tryz.prog 9 #[.pointer (some ⟨p, 0, none⟩), .slice Aw ws.length cw] w fun e w' => e = .returned (.string r) ∧ St 35 w' w0.heap.size p L cn_ cB ∧ Below w0.heap.size w0 w' := by
 obtain ⟨vT, vB, hBK, hT, hH, hp⟩ := hS
 obtain ⟨A, c, rfl, hlc, hC⟩ := Kd.S_reads hT
 obtain ⟨Ab, cb, rfl, hlb, hCb⟩ := Kd.R_reads hH
 have BKp := ra hBK; have HT := ra hT; have HH := ra hH; have HC := ra hC; have HCB := ra hCb; have HLC := ra hlc; have HLB := ra hlb; have HB := ra hB; have HWG := ra hWG; have GEp := ra hp; have HW := ra hrw; have HLW := ra hcw; have Z0 := ra h6; have Z1 := ra h1; have H0 := ra h0
 obtain ⟨Z2, Z3, _, hsz_, _⟩ := info_parts info9
 have hcut := cut_from (P := Tryz.prog) 27 9 .i64 Tryz.underlying27 Z3 1 hsz_ Aw ws.length cw 1 (by omega) (by omega)
 have htl := Kd.C_drop (m := (1 : Int).toNat) (c := cw) hrw (by have e_ : (1 : Int).toNat = 1 := rfl; omega) hcw
 obtain ⟨Z4, Z5⟩ : ∃ Z4, Z4 = (if cw = (1 : Int).toNat then Aw else (Aw : Option Addr).map (·.add ((1 : Int).toNat * 1))) := ⟨_, rfl⟩
 obtain ⟨Z6, Z7⟩ : ∃ Z6, Z6 = cw - (1 : Int).toNat := ⟨_, rfl⟩
 obtain ⟨tl, htl_⟩ : ∃ tl, tl = ws.drop 1 := ⟨_, rfl⟩
 have hy : tl.length = ws.length - (1 : Int).toNat := by rw [htl_, List.length_drop]; rfl
 replace htl : Kd.C Kd.string w Z4 tl.length tl := by rw [Z5, htl_]; exact htl
 rw [← hy, ← Z5, ← Z7] at hcut
 rw [← htl_] at Z0 Z1
 have HTL := ra htl
 have HTC := ra (show tl.length ≤ Z6 from by rw [hy, Z7]; exact Nat.sub_le_sub_right hcw _)
 clear hBK hT hH hC hCb hlc hlb hB hWG hp h6 h1 htl hy Z5 Z7 htl_
 obtain ⟨fw_tube, fw_box, fw_put, fw_drop, fw_all, fw_with, fw_meet, fw_cut, fw_free⟩ := fs_cut hW
 have Z8 := ki 0 (ws.length : Int)
 have Z9 : (0 < ws.length) = True := eq_true h0
 obtain ⟨adw, ew, Z10⟩ := Kd.at_string hrw 0 (Int.le_refl _) (by omega); cases ew; replace Z10 := Sn.s0 Z10
 have HCU := ra hcu; have HI := ra hi; have Z11 := ra hn1; have Z12 : (0 < a1.length) = True := eq_true hn1; have Z13 := ki 0 (a1.length : Int); clear hcu hi hn1
 clear hrw hcw hW
 have Z14 := Tryz.underlying35; have Z15 := Tryz.underlying55; have Z16 := Tryz.underlying33
 go_enter Tryz.func9, Tryz.ntmps9
 go_wp2_with (first | ((with_reducible refine gc 18 rfl ?_); refine gm (some 12) Tryz.func18 (spec_l7Numbers.calls _ _ _ _ _ _ _ _ HTL.out HTC.out Z0.out) ?_; rintro e Z17 ⟨Z18, rfl, Z19, hb⟩; obtain ⟨An, cn, rfl, hln, hCn⟩ := Kd.R_reads Z19; refine ⟨_, rfl, ?_⟩; have HNI := ra hCn; have HLN := ra hln; replace HTL := ra (Kd.C_below HTL.out hb); replace BKp := bb (bk BKp) hb; replace HB := bs hb; replace HT := Sn.bT HT hb; replace HH := Sn.bH HH hb; replace HC := Sn.bC HC hb; replace HCB := Sn.bC HCB hb; replace Z10 := Sn.cb hb Z10; clear hb Z19 hCn hln) | ((with_reducible refine gc 18 rfl ?_); refine gm (some 18) Tryz.func18 (spec_l7Numbers.calls _ _ _ _ _ _ _ _ HTL.out HTC.out Z1.out) ?_; rintro e Z20 ⟨Z18, rfl, Z19, hb⟩; obtain ⟨Am, cm, rfl, hlm, hCm⟩ := Kd.R_reads Z19; refine ⟨_, rfl, ?_⟩; have HMI := ra hCm; have HLM := ra hlm; replace HNI := ra (Kd.C_below HNI.out hb); replace BKp := bb (bk BKp) hb; replace HB := bs hb; replace HT := Sn.bT HT hb; replace HH := Sn.bH HH hb; replace HC := Sn.bC HC hb; replace HCB := Sn.bC HCB hb; replace Z10 := Sn.cb hb Z10; clear hb Z19 hCm hlm HTL; obtain ⟨Z21, Z22, Z23, Z24, Z25, Z26⟩ := Sn.zc3 BKp))
 have HMI := Sn.drC HMI; have _ := ra (blk_drew BKp.out); have _ := ra (below_drew1 HB.out); have _ := Sn.drT HT; have _ := Sn.drH HH; have _ := Sn.drC HC; have _ := Sn.drC HCB
 clear BKp HB HT HH HC HCB
 rename_i BKp HB HT HH HC HCB
 clear Z21 Z22 Z23 Z24 Z25 Z26
 obtain ⟨adn, en, Z27⟩ := Kd.at_int HMI.out 0 (Int.le_refl _) (by have := Z11.out; omega); cases en; replace Z27 := Sn.s0 Z27
 refine start_ (n := 12) (S := fun w' => w'.cell? ⟨p, 1, none⟩ = some (.string nm) ∧ w'.cell? ⟨p, 2, none⟩ = some (.slice Ab B.length cb) ∧ w'.cell? adn = some (.int .i64 (rd a1 0))) (ds := [8, 11]) #[false, false, false, false, false, false, false, false, false, false, false, false] (by kernel_rfl) rfl rfl ⟨(blk_cell BKp.out 1).trans rfl, (blk_cell BKp.out 2).trans rfl, Z27⟩ (fun hHeld => ?_)
 generalize Z20.drew = wf at BKp HB HT HH HC HCB HMI Z27 hHeld ⊢
 refine pu 0 145 (bl 12 1) ?_
 refine pu 1 146 (bl 12 3) ?_
 refine pu 2 147 (bl 12 7) ?_
 refine pu 3 148 (bl 12 15) ?_
 refine pu 5 150 (bl 12 47) ?_
 refine pu 6 151 (bl 12 111) ?_
 refine tk 4 149 (bl 12 127) ?_ hHeld
 refine tk 7 152 (bl 12 255) ?_ hHeld
 refine last_ (i := 8) (N := some 153) #[true, true, true, true, true, true, true, true, true, false, false, false] rfl rfl (by kernel_rfl) (by decide) (fun K hK => ?_)
 refine goes_ Tryz.func25 (by kernel_rfl) rfl #[.agg #[.string nm, .slice Ab B.length cb], .int .i64 (rd a1 0)] (by rfl) rfl rfl (by simp only [List.map_toArray, List.map_cons, List.map_nil]; rfl) ?_
 with_reducible refine (spec_ProbeCut.calls k nm Ab cb B (rd a1 0) cn_ cB _ HCB.out HLB.out HCU.out).mono ?_
 rintro e Z28 ⟨Z18, rfl, Z19, hb⟩
 obtain ⟨Ac, cc, rfl⟩ := Kd.R_slice Z19
 refine ⟨_, rfl, ?_⟩
 have _ := bb (bk BKp) hb
 have _ := ra (Kd.S_mono (Kd.S_elder' HT.out (Kd.R_base Z19) hb) (fun _ hk => hk.2))
 have _ := ra (Kd.R_lower Z19 (below_size HB.out))
 have _ := bs hb
 clear BKp HT HH HB HC HCB
 rename_i BKp HT HH HB
 clear hb Z19
 refine hK.out _ _ ?_
 clear hK K
 refine Z.nm 153 ?_
 refine pu 9 154 (bl 12 1023) ?_
 refine pu 10 155 (bl 12 2047) ?_
 refine last_ (i := 11) (N := none) #[true, true, true, true, true, true, true, true, true, true, true, true] rfl rfl (by kernel_rfl) (by decide) (fun K hK => ?_)
 obtain ⟨Z21, Z22, Z23, Z24, Z25, Z26⟩ := Sn.zc3 BKp
 refine skip_ (w1 := ?_) (by rfl) rfl ?_ ?_
 rotate_left
 ·go_simp
  rfl
 refine hK.out _ _ ?_
 clear hK K
 refine done_ (by kernel_rfl) ?_
 have _ : Aside0 (((Z28.setCell ⟨p, 1, none⟩ (.string cn_)).setCell ⟨p, 2, none⟩ (.slice Ac cB.length cc)).heap[p]? = some (.cells #[.slice A L.length c, .string cn_, .slice Ac cB.length cc] 35 (0, 0))) := ⟨bp BKp⟩
 have _ : Aside0 (Below w0.heap.size w0 ((Z28.setCell ⟨p, 1, none⟩ (.string cn_)).setCell ⟨p, 2, none⟩ (.slice Ac cB.length cc))) := ⟨bq⟩
 have _ := ra (Sn.setT (j := 2) (u := .slice Ac cB.length cc) (Sn.setT (j := 1) (u := .string cn_) HT.out BKp.out (by decide)) (bp (cs2 := #[.slice A L.length c, .string cn_, .slice Ab B.length cb]) BKp) (by decide))
 have _ := ra (Sn.setH (j := 2) (u := .slice Ac cB.length cc) (Sn.setH (j := 1) (u := .string cn_) HH.out BKp.out (by decide)) (bp (cs2 := #[.slice A L.length c, .string cn_, .slice Ab B.length cb]) BKp) (by decide))
 clear BKp HB HT HH Z21 Z22 Z23 Z24 Z25 Z26
 rename_i BKp HB HT HH
 generalize ((Z28.setCell ⟨p, 1, none⟩ (.string cn_)).setCell ⟨p, 2, none⟩ (.slice Ac cB.length cc)) = Z29 at BKp HB HT HH ⊢
 obtain ⟨Z21, Z22, Z23, Z24, Z25, Z26⟩ := Sn.zc3 BKp
 go_wp2_with (first | ((with_reducible refine gc 15 rfl ?_); refine gy (some 162) Tryz.func15 (spec_l7Dec.calls _ _ _ _ HI.out) ?_; rintro Z30 hb; replace BKp := bb (bk BKp) hb; replace HT := Sn.bT HT hb; replace HH := Sn.bH HH hb; replace HB := bs hb; clear Z21 Z22 Z23 Z24 Z25 Z26; obtain ⟨Z21, Z22, Z23, Z24, Z25, Z26⟩ := Sn.zc3 BKp; clear hb))
 go_ret
 exact ⟨re, ⟨_, _, bk BKp, Sn.qS HT, Sn.qR HH, GEp.out⟩, bq⟩
def spec_s_line.f (k : Nat) (st : Sx) (ws : List ByteArray) : Option (ByteArray × Sx) :=
 if 0 < ws.length then (spec_l7Numbers.f k (ws.drop 1) 6).bind fun n6 => (spec_l7Numbers.f k (ws.drop 1) 1).bind fun n1 =>
  if (rdOf ByteArray.empty ws 0).toList = ([116, 117, 98, 101] : List UInt8) then (if ws.length = 2 then some ((⟨#[111, 107]⟩ : ByteArray), (st.1, (rdOf ByteArray.empty ws 1), [])) else some (((⟨#[98, 97, 100]⟩ : ByteArray), st) : ByteArray × Sx))
  else if (rdOf ByteArray.empty ws 0).toList = ([98, 111, 120] : List UInt8) then (if n6.2 = true then spec_s_box.f st n6.1 else some (((⟨#[98, 97, 100]⟩ : ByteArray), st) : ByteArray × Sx))
  else if (rdOf ByteArray.empty ws 0).toList = ([112, 117, 116] : List UInt8) then (if ws.length = 1 then spec_s_happen.f k st false st.2.1 st.2.2 else some (((⟨#[98, 97, 100]⟩ : ByteArray), st) : ByteArray × Sx))
  else if (rdOf ByteArray.empty ws 0).toList = ([100, 114, 111, 112] : List UInt8) then (if ws.length = 2 then spec_s_happen.f k st true (rdOf ByteArray.empty ws 1) [] else some (((⟨#[98, 97, 100]⟩ : ByteArray), st) : ByteArray × Sx))
  else if (rdOf ByteArray.empty ws 0).toList = ([97, 108, 108] : List UInt8) then (if ws.length = 1 then (spec_ProbeAll.f k st.1).bind fun cl => (spec_l7Clashes.f k cl).bind fun r => some (r, st) else some (((⟨#[98, 97, 100]⟩ : ByteArray), st) : ByteArray × Sx))
  else if (rdOf ByteArray.empty ws 0).toList = ([119, 105, 116, 104] : List UInt8) then (if ws.length = 1 then (spec_ProbeWith.f k st.1 st.2.1 st.2.2).bind fun cl => (spec_l7Clashes.f k cl).bind fun r => some (r, st) else some (((⟨#[98, 97, 100]⟩ : ByteArray), st) : ByteArray × Sx))
  else if (rdOf ByteArray.empty ws 0).toList = ([109, 101, 101, 116] : List UInt8) then (if ws.length = 3 then (spec_s_meet.f k st.1 (rdOf ByteArray.empty ws 1) (rdOf ByteArray.empty ws 2)).bind fun r => some (r, st) else some (((⟨#[98, 97, 100]⟩ : ByteArray), st) : ByteArray × Sx))
  else if (rdOf ByteArray.empty ws 0).toList = ([99, 117, 116] : List UInt8) then (if n1.2 = true then (if 0 < n1.1.length then (spec_ProbeCut.f k st.2.1 st.2.2 (rd n1.1 0)).bind fun cu => (spec_l7Dec.f k (cu.2.length : Int)).bind fun r => some (r, (st.1, cu.1, cu.2)) else none) else some (((⟨#[98, 97, 100]⟩ : ByteArray), st) : ByteArray × Sx))
  else if (rdOf ByteArray.empty ws 0).toList = ([102, 114, 101, 101] : List UInt8) then (if ws.length = 1 then (spec_ProbeFree.f k st.1 st.2.1 st.2.2).bind fun b => some (if b = true then (((⟨#[121, 101, 115]⟩ : ByteArray), st) : ByteArray × Sx) else (((⟨#[110, 111]⟩ : ByteArray), st) : ByteArray × Sx)) else some (((⟨#[98, 97, 100]⟩ : ByteArray), st) : ByteArray × Sx))
  else some (((⟨#[98, 97, 100]⟩ : ByteArray), st) : ByteArray × Sx)
 else none
theorem spec_s_line.calls (k p : Nat) (L : List S33) (nm : ByteArray) (B : List S46) (Aw : Option Addr) (cw : Nat) (ws : List ByteArray) (r : ByteArray) (st' : Sx) (w0 w : World) (hB : Below w0.heap.size w0 w) (hWG : Lb.WG w0) (hS : St 35 w w0.heap.size p L nm B) (hrw : Kd.C Kd.string w Aw ws.length ws) (hcw : ws.length ≤ cw) (h : spec_s_line.f k (L, nm, B) ws = some (r, st')) :
  Calls Tryz.prog 9 #[.pointer (some ⟨p, 0, none⟩), .slice Aw ws.length cw] w fun e w' => e = .returned (.string r) ∧ St 35 w' w0.heap.size p st'.1 st'.2.1 st'.2.2 ∧ Below w0.heap.size w0 w' := by
 unfold spec_s_line.f at h
 by_cases Z0 : 0 < ws.length
 rotate_left
 ·rw [if_neg Z0] at h; cases h
 rw [if_pos Z0] at h
 obtain ⟨⟨Z1, Z2⟩, Z3, h⟩ := Option.bind_eq_some_iff.1 h
 obtain ⟨⟨Z4, Z5⟩, Z6, h⟩ := Option.bind_eq_some_iff.1 h
 dsimp only at h
 by_cases hW : (rdOf ByteArray.empty ws 0).toList = ([116, 117, 98, 101] : List UInt8)
 ·rw [if_pos hW] at h
  by_cases hlen : ws.length = 2
  ·rw [if_pos hlen] at h
   obtain ⟨rfl, rfl⟩ := Prod.mk.inj (Option.some.inj h)
   exact Sn.sl_tube k p L nm B Aw cw ws Z1 Z4 Z2 Z5 w0 w hB hWG hS hrw hcw Z0 Z3 Z6 hW hlen
  ·rw [if_neg hlen] at h
   obtain ⟨rfl, rfl⟩ := Prod.mk.inj (Option.some.inj h)
   exact Sn.sl_tubeBad k p L nm B Aw cw ws Z1 Z4 Z2 Z5 w0 w hB hWG hS hrw hcw Z0 Z3 Z6 hW hlen
 have hn_tube := hW
 clear hW
 rw [if_neg hn_tube] at h
 by_cases hW : (rdOf ByteArray.empty ws 0).toList = ([98, 111, 120] : List UInt8)
 ·rw [if_pos hW] at h
  cases Z2 with
  | true =>
   rw [if_pos rfl] at h
   exact Sn.sl_box k p L nm B Aw cw ws Z1 Z4 Z5 w0 w hB hWG hS hrw hcw Z0 Z3 Z6 hW r st' h
  | false =>
   rw [if_neg (by decide)] at h
   obtain ⟨rfl, rfl⟩ := Prod.mk.inj (Option.some.inj h)
   exact Sn.sl_boxBad k p L nm B Aw cw ws Z1 Z4 Z5 w0 w hB hWG hS hrw hcw Z0 Z3 Z6 hW
 have hn_box := hW
 clear hW
 rw [if_neg hn_box] at h
 by_cases hW : (rdOf ByteArray.empty ws 0).toList = ([112, 117, 116] : List UInt8)
 ·rw [if_pos hW] at h
  by_cases hlen : ws.length = 1
  ·rw [if_pos hlen] at h
   exact Sn.sl_put k p L nm B Aw cw ws Z1 Z4 Z2 Z5 w0 w hB hWG hS hrw hcw Z0 Z3 Z6 hW hlen r st' h
  ·rw [if_neg hlen] at h
   obtain ⟨rfl, rfl⟩ := Prod.mk.inj (Option.some.inj h)
   exact Sn.sl_putBad k p L nm B Aw cw ws Z1 Z4 Z2 Z5 w0 w hB hWG hS hrw hcw Z0 Z3 Z6 hW hlen
 have hn_put := hW
 clear hW
 rw [if_neg hn_put] at h
 by_cases hW : (rdOf ByteArray.empty ws 0).toList = ([100, 114, 111, 112] : List UInt8)
 ·rw [if_pos hW] at h
  by_cases hlen : ws.length = 2
  ·rw [if_pos hlen] at h
   exact Sn.sl_drop k p L nm B Aw cw ws Z1 Z4 Z2 Z5 w0 w hB hWG hS hrw hcw Z0 Z3 Z6 hW hlen r st' h
  ·rw [if_neg hlen] at h
   obtain ⟨rfl, rfl⟩ := Prod.mk.inj (Option.some.inj h)
   exact Sn.sl_dropBad k p L nm B Aw cw ws Z1 Z4 Z2 Z5 w0 w hB hWG hS hrw hcw Z0 Z3 Z6 hW hlen
 have hn_drop := hW
 clear hW
 rw [if_neg hn_drop] at h
 by_cases hW : (rdOf ByteArray.empty ws 0).toList = ([97, 108, 108] : List UInt8)
 ·rw [if_pos hW] at h
  by_cases hlen : ws.length = 1
  ·rw [if_pos hlen] at h
   obtain ⟨cl, hcl, h⟩ := Option.bind_eq_some_iff.1 h
   obtain ⟨Z7, hr, h⟩ := Option.bind_eq_some_iff.1 h
   obtain ⟨rfl, rfl⟩ := Prod.mk.inj (Option.some.inj h)
   exact Sn.sl_all k p L nm B Aw cw ws Z1 Z4 Z2 Z5 w0 w hB hWG hS hrw hcw Z0 Z3 Z6 hW hlen cl hcl _ hr
  ·rw [if_neg hlen] at h
   obtain ⟨rfl, rfl⟩ := Prod.mk.inj (Option.some.inj h)
   exact Sn.sl_allBad k p L nm B Aw cw ws Z1 Z4 Z2 Z5 w0 w hB hWG hS hrw hcw Z0 Z3 Z6 hW hlen
 have hn_all := hW
 clear hW
 rw [if_neg hn_all] at h
 by_cases hW : (rdOf ByteArray.empty ws 0).toList = ([119, 105, 116, 104] : List UInt8)
 ·rw [if_pos hW] at h
  by_cases hlen : ws.length = 1
  ·rw [if_pos hlen] at h
   obtain ⟨cl, hcl, h⟩ := Option.bind_eq_some_iff.1 h
   obtain ⟨Z7, hr, h⟩ := Option.bind_eq_some_iff.1 h
   obtain ⟨rfl, rfl⟩ := Prod.mk.inj (Option.some.inj h)
   exact Sn.sl_with k p L nm B Aw cw ws Z1 Z4 Z2 Z5 w0 w hB hWG hS hrw hcw Z0 Z3 Z6 hW hlen cl hcl _ hr
  ·rw [if_neg hlen] at h
   obtain ⟨rfl, rfl⟩ := Prod.mk.inj (Option.some.inj h)
   exact Sn.sl_withBad k p L nm B Aw cw ws Z1 Z4 Z2 Z5 w0 w hB hWG hS hrw hcw Z0 Z3 Z6 hW hlen
 have hn_with := hW
 clear hW
 rw [if_neg hn_with] at h
 by_cases hW : (rdOf ByteArray.empty ws 0).toList = ([109, 101, 101, 116] : List UInt8)
 ·rw [if_pos hW] at h
  by_cases hlen : ws.length = 3
  ·rw [if_pos hlen] at h
   obtain ⟨Z7, hr, h⟩ := Option.bind_eq_some_iff.1 h
   obtain ⟨rfl, rfl⟩ := Prod.mk.inj (Option.some.inj h)
   exact Sn.sl_meet k p L nm B Aw cw ws Z1 Z4 Z2 Z5 w0 w hB hWG hS hrw hcw Z0 Z3 Z6 hW hlen _ hr
  ·rw [if_neg hlen] at h
   obtain ⟨rfl, rfl⟩ := Prod.mk.inj (Option.some.inj h)
   exact Sn.sl_meetBad k p L nm B Aw cw ws Z1 Z4 Z2 Z5 w0 w hB hWG hS hrw hcw Z0 Z3 Z6 hW hlen
 have hn_meet := hW
 clear hW
 rw [if_neg hn_meet] at h
 by_cases hW : (rdOf ByteArray.empty ws 0).toList = ([99, 117, 116] : List UInt8)
 ·rw [if_pos hW] at h
  cases Z5 with
  | true =>
   rw [if_pos rfl] at h
   by_cases Z7 : 0 < Z4.length
   rotate_left
   ·rw [if_neg Z7] at h; cases h
   rw [if_pos Z7] at h
   obtain ⟨⟨cn_, cB⟩, hcu, h⟩ := Option.bind_eq_some_iff.1 h
   obtain ⟨Z8, hi, h⟩ := Option.bind_eq_some_iff.1 h
   obtain ⟨rfl, rfl⟩ := Prod.mk.inj (Option.some.inj h)
   exact Sn.sl_cut k p L nm B Aw cw ws Z1 Z4 Z2 w0 w hB hWG hS hrw hcw Z0 Z3 Z6 hW Z7 cn_ cB hcu _ hi
  | false =>
   rw [if_neg (by decide)] at h
   obtain ⟨rfl, rfl⟩ := Prod.mk.inj (Option.some.inj h)
   exact Sn.sl_cutBad k p L nm B Aw cw ws Z1 Z4 Z2 w0 w hB hWG hS hrw hcw Z0 Z3 Z6 hW
 have hn_cut := hW
 clear hW
 rw [if_neg hn_cut] at h
 by_cases hW : (rdOf ByteArray.empty ws 0).toList = ([102, 114, 101, 101] : List UInt8)
 ·rw [if_pos hW] at h
  by_cases hlen : ws.length = 1
  ·rw [if_pos hlen] at h
   obtain ⟨b, hb, h⟩ := Option.bind_eq_some_iff.1 h
   cases b with
   | false =>
    rw [if_neg (by decide)] at h
    obtain ⟨rfl, rfl⟩ := Prod.mk.inj (Option.some.inj h)
    exact Sn.sl_free_false k p L nm B Aw cw ws Z1 Z4 Z2 Z5 w0 w hB hWG hS hrw hcw Z0 Z3 Z6 hW hlen hb
   | true =>
    rw [if_pos rfl] at h
    obtain ⟨rfl, rfl⟩ := Prod.mk.inj (Option.some.inj h)
    exact Sn.sl_free_true k p L nm B Aw cw ws Z1 Z4 Z2 Z5 w0 w hB hWG hS hrw hcw Z0 Z3 Z6 hW hlen hb
  ·rw [if_neg hlen] at h
   obtain ⟨rfl, rfl⟩ := Prod.mk.inj (Option.some.inj h)
   exact Sn.sl_freeBad k p L nm B Aw cw ws Z1 Z4 Z2 Z5 w0 w hB hWG hS hrw hcw Z0 Z3 Z6 hW hlen
 have hn_free := hW
 clear hW
 rw [if_neg hn_free] at h
 obtain ⟨rfl, rfl⟩ := Prod.mk.inj (Option.some.inj h)
 exact Sn.sl_bad k p L nm B Aw cw ws Z1 Z4 Z2 Z5 w0 w hB hWG hS hrw hcw Z0 Z3 Z6 hn_tube hn_box hn_put hn_drop hn_all hn_with hn_meet hn_cut hn_free
end Go.Proofs.YtjelgpmhbaiipaaGreatDoor.PA
end
