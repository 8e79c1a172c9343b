/- Walks of the session's methods. No condition beside what the Lean functions say. -/
import Derived.Test.YtjelgpmhbaiipaaGreatDoorFZCv2
import Derived.Test.YtjelgpmhbaiipaaGreatDoorFS24
import Derived.Test.YtjelgpmhbaiipaaGreatDoorFG25
import Derived.Test.YtjelgpmhbaiipaaGreatDoorFG11
section
namespace Go.Proofs.YtjelgpmhbaiipaaGreatDoor.PA
open Go.RowKit Go.Proofs.YtjelgpmhbaiipaaGreatDoorW.PrintWords Go.Proofs.YtjelgpmhbaiipaaGreatDoorW.PrintLast Go.Proofs.YtjelgpmhbaiipaaGreatDoorW.PrintMore Go.Proofs.YtjelgpmhbaiipaaGreatDoor.Z
attribute [local go_sem] max2_int min2_int max_two min_two max_three min_three max_four min_four
set_option linter.unusedVariables false
set_option maxHeartbeats 8000000
set_option maxRecDepth 100000
set_option linter.unusedSimpArgs false
theorem Sn.numbers1 (k : Nat) (adw : Addr) (cw : Nat) (ws : List ByteArray) (ns : List Int) (ok : Bool) (w : World) (hC : Kd.string.C w (some adw) ws.length ws) (hl : ws.length ≤ cw) (h1 : 2 ≤ ws.length) (h : impl_numbers.f k (ws.drop 1) = some (ns, ok)) :
  Calls Tryz.prog 28 #[.slice (some ⟨adw.block, adw.off + 1, none⟩) (ws.length - 1) (cw - 1)] w fun e w' => ∃ v0_ : Value, e = .returned (.tuple #[v0_, .bool ok]) ∧ Kd.R (Kd.int .i64) 3 w' w.heap.size (fun _ => True) v0_ ns ∧ Below w.heap.size w w' := by
 have hd := Kd.C_drop (m := 1) (c := cw) hC (by omega) hl
 rw [if_neg (by omega), List.length_drop] at hd
 have hc := impl_numbers.calls k (some ⟨adw.block, adw.off + 1, none⟩) (cw - 1) (ws.drop 1) ns ok w (by rw [List.length_drop]; simpa [Addr.add, show Kd.string.sz = 1 from rfl] using hd) (by rw [List.length_drop]; omega) h
 rwa [List.length_drop] at hc
theorem Sn.ia_boxBadNum (k p : Nat) (L : List S33) (nm : ByteArray) (B : List S46) (line : ByteArray) (ws : List ByteArray) (w0 w : World) (hB : Below w0.heap.size w0 w) (hWG : Lb.WG w0) (hS : St 40 w w0.heap.size p L nm B) (hs : Lb.split.f line (⟨#[32]⟩ : ByteArray) = some ws) (h0 : 0 < ws.length) (hW : (rdOf ByteArray.empty ws 0).toList = [98, 111, 120]) (hlen : ws.length = 7) (hl_put : line.toList ≠ [112, 117, 116]) (hl_all : line.toList ≠ [97, 108, 108]) (hl_with : line.toList ≠ [119, 105, 116, 104]) (hl_free : line.toList ≠ [102, 114, 101, 101]) (ns : List Int) (hk : impl_numbers.f k (ws.drop 1) = some (ns, false)) :
  Calls Tryz.prog 11 #[.pointer (some ⟨p, 0, none⟩), .string line] w fun e w' => e = .returned (.string (⟨#[98, 97, 100]⟩ : ByteArray)) ∧ St 40 w' w0.heap.size p L nm B ∧ Below w0.heap.size w0 w' := by
 obtain ⟨A, c, Ab, cb, BKp, HT, HH, HC, HCB, HLC, HLB, GEp⟩ := Sn.op hS
 have HB := ra hB; have HWG := ra hWG; have HS := ra hs
 clear hB hWG hs
 obtain ⟨fw_tube, fw_box, fw_drop, fw_meet, fw_cut⟩ := fi_box hW
 have fl_put := beq_eq_false_iff_ne.mpr hl_put
 have fl_all := beq_eq_false_iff_ne.mpr hl_all
 have fl_with := beq_eq_false_iff_ne.mpr hl_with
 have fl_free := beq_eq_false_iff_ne.mpr hl_free
 have fn : ((ws.length : Int) == 7) = true := beq_iff_eq.mpr (by omega)
 have Z0 := ki 0 (ws.length : Int)
 have Z1 : (0 < ws.length) = True := eq_true h0
 have H0 := ra h0
 have HK := ra hk; clear hk; have HN := ra hlen; have fcw : ∀ x : Nat, ws.length ≤ x → (x = 1) = False := fun x hx => eq_false (by omega)
 clear hW hlen hl_put hl_all hl_with hl_free
 have Z2 := Tryz.underlying40; have Z3 := Tryz.underlying55; have Z4 := Tryz.underlying33
 go_enter Tryz.func11, Tryz.ntmps11
 go_wp2_with (first | ((with_reducible refine gc 10 rfl ?_); refine gm (some 18) Tryz.func10 (Lb.split.calls _ _ _ _ (Lb.wg HWG) HS.out) ?_; rintro e Z5 ⟨Z6, rfl, Z7, hb⟩; obtain ⟨Aw, cw, rfl, hlw, hCw⟩ := Kd.R_reads Z7; refine ⟨_, rfl, ?_⟩; replace BKp := bb (bk BKp) hb; replace HB := bs hb; replace HT := Sn.bT HT hb; replace HH := Sn.bH HH hb; replace HC := Sn.bC HC hb; replace HCB := Sn.bC HCB hb; obtain ⟨adw, ew, Z8⟩ := Kd.at_string hCw 0 (Int.le_refl _) (by have := H0.out; omega); cases ew; replace Z8 := Sn.s0 Z8; have HW := ra hCw; have HLW := ra hlw; clear hb Z7 hCw hlw; obtain ⟨Z9, Z10, Z11, Z12, Z13, Z14⟩ := Sn.zc3 BKp; have Z15 := fcw cw HLW.out; clear fcw) | ((with_reducible refine gc 28 rfl ?_); refine gm (some 49) Tryz.func28 (Sn.numbers1 k adw cw ws ns false _ (Sn.qC HW) HLW.out (by have := HN.out; omega) HK.out) ?_; rintro e Z16 ⟨Z17, rfl, Z18, hb⟩; obtain ⟨An, cn, rfl, hln, hCn⟩ := Kd.R_reads Z18; refine ⟨_, rfl, ?_⟩; have HNI := ra hCn; have HLN := ra hln; replace BKp := bb (bk BKp) hb; replace HB := bs hb; replace HT := Sn.bT HT hb; replace HH := Sn.bH HH hb; replace HC := Sn.bC HC hb; replace HCB := Sn.bC HCB hb; clear hb Z18 hCn hln Z8 HW))
 go_ret
 exact ⟨re, ⟨_, _, bk BKp, Sn.qS HT, Sn.qR HH, GEp.out⟩, bq⟩
theorem Sn.ia_boxNo (k p : Nat) (L : List S33) (nm : ByteArray) (B : List S46) (line : ByteArray) (ws : List ByteArray) (w0 w : World) (hB : Below w0.heap.size w0 w) (hWG : Lb.WG w0) (hS : St 40 w w0.heap.size p L nm B) (hs : Lb.split.f line (⟨#[32]⟩ : ByteArray) = some ws) (h0 : 0 < ws.length) (hW : (rdOf ByteArray.empty ws 0).toList = [98, 111, 120]) (hlen : ws.length = 7) (hl_put : line.toList ≠ [112, 117, 116]) (hl_all : line.toList ≠ [97, 108, 108]) (hl_with : line.toList ≠ [119, 105, 116, 104]) (hl_free : line.toList ≠ [102, 114, 101, 101]) (ns : List Int) (hk : impl_numbers.f k (ws.drop 1) = some (ns, true)) (h6 : 6 ≤ ns.length) (hf : impl_ProbeBoxOk.f (rd ns 0) (rd ns 1) (rd ns 2) (rd ns 3) (rd ns 4) (rd ns 5) = some false) :
  Calls Tryz.prog 11 #[.pointer (some ⟨p, 0, none⟩), .string line] w fun e w' => e = .returned (.string (⟨#[110, 111]⟩ : ByteArray)) ∧ St 40 w' w0.heap.size p L nm B ∧ Below w0.heap.size w0 w' := by
 obtain ⟨A, c, Ab, cb, BKp, HT, HH, HC, HCB, HLC, HLB, GEp⟩ := Sn.op hS
 have HB := ra hB; have HWG := ra hWG; have HS := ra hs
 clear hB hWG hs
 obtain ⟨fw_tube, fw_box, fw_drop, fw_meet, fw_cut⟩ := fi_box hW
 have fl_put := beq_eq_false_iff_ne.mpr hl_put
 have fl_all := beq_eq_false_iff_ne.mpr hl_all
 have fl_with := beq_eq_false_iff_ne.mpr hl_with
 have fl_free := beq_eq_false_iff_ne.mpr hl_free
 have fn : ((ws.length : Int) == 7) = true := beq_iff_eq.mpr (by omega)
 have Z0 := ki 0 (ws.length : Int)
 have Z1 : (0 < ws.length) = True := eq_true h0
 have H0 := ra h0
 have HK := ra hk; clear hk; have HN := ra hlen; have fcw : ∀ x : Nat, ws.length ≤ x → (x = 1) = False := fun x hx => eq_false (by omega); have HF := ra hf; clear hf; have Z2 := ra h6; have Z3 := Tryz.underlying46
 have Z4 := ki 0 (ns.length : Int); have Z5 := kn 0 ns.length
 have Z6 := ki 1 (ns.length : Int); have Z7 := kn 1 ns.length
 have Z8 := ki 2 (ns.length : Int); have Z9 := kn 2 ns.length
 have Z10 := ki 3 (ns.length : Int); have Z11 := kn 3 ns.length
 have Z12 := ki 4 (ns.length : Int); have Z13 := kn 4 ns.length
 have Z14 := ki 5 (ns.length : Int); have Z15 := kn 5 ns.length
 clear h6
 clear hW hlen hl_put hl_all hl_with hl_free
 have Z16 := Tryz.underlying40; have Z17 := Tryz.underlying55; have Z18 := Tryz.underlying33
 go_enter Tryz.func11, Tryz.ntmps11
 go_wp2_with (first | ((with_reducible refine gc 10 rfl ?_); refine gm (some 18) Tryz.func10 (Lb.split.calls _ _ _ _ (Lb.wg HWG) HS.out) ?_; rintro e Z19 ⟨Z20, rfl, Z21, hb⟩; obtain ⟨Aw, cw, rfl, hlw, hCw⟩ := Kd.R_reads Z21; refine ⟨_, rfl, ?_⟩; replace BKp := bb (bk BKp) hb; replace HB := bs hb; replace HT := Sn.bT HT hb; replace HH := Sn.bH HH hb; replace HC := Sn.bC HC hb; replace HCB := Sn.bC HCB hb; obtain ⟨adw, ew, Z22⟩ := Kd.at_string hCw 0 (Int.le_refl _) (by have := H0.out; omega); cases ew; replace Z22 := Sn.s0 Z22; have HW := ra hCw; have HLW := ra hlw; clear hb Z21 hCw hlw; obtain ⟨Z23, Z24, Z25, Z26, Z27, Z28⟩ := Sn.zc3 BKp; have Z29 := fcw cw HLW.out; clear fcw) | ((with_reducible refine gc 28 rfl ?_); refine gm (some 49) Tryz.func28 (Sn.numbers1 k adw cw ws ns true _ (Sn.qC HW) HLW.out (by have := HN.out; omega) HK.out) ?_; rintro e Z30 ⟨Z31, rfl, Z32, hb⟩; obtain ⟨An, cn, rfl, hln, hCn⟩ := Kd.R_reads Z32; refine ⟨_, rfl, ?_⟩; have HNI := ra hCn; have HLN := ra hln; replace BKp := bb (bk BKp) hb; replace HB := bs hb; replace HT := Sn.bT HT hb; replace HH := Sn.bH HH hb; replace HC := Sn.bC HC hb; replace HCB := Sn.bC HCB hb; clear hb Z32 hCn hln Z22 HW))
 have HNI := Sn.drC HNI; have _ := ra (blk_drew BKp.out); have _ := ra (below_drew1 HB.out); have _ := Sn.drT HT; have _ := Sn.drH HH; have _ := Sn.drC HC; have _ := Sn.drC HCB
 clear BKp HB HT HH HC HCB
 rename_i BKp HB HT HH HC HCB
 obtain ⟨adn, en, Z33⟩ := Kd.at_int HNI.out 0 (Int.le_refl _) (by have := Z2.out; omega); cases en; replace Z33 := Sn.s0 Z33
 obtain ⟨_, en, Z34⟩ := Kd.at_int HNI.out 1 (by omega) (by have := Z2.out; omega); cases en; replace Z34 := Sn.s1 (i := 0) Z34
 obtain ⟨_, en, Z35⟩ := Kd.at_int HNI.out 2 (by omega) (by have := Z2.out; omega); cases en; replace Z35 := Sn.s1 (i := 1) Z35
 obtain ⟨_, en, Z36⟩ := Kd.at_int HNI.out 3 (by omega) (by have := Z2.out; omega); cases en; replace Z36 := Sn.s1 (i := 2) Z36
 obtain ⟨_, en, Z37⟩ := Kd.at_int HNI.out 4 (by omega) (by have := Z2.out; omega); cases en; replace Z37 := Sn.s1 (i := 3) Z37
 obtain ⟨_, en, Z38⟩ := Kd.at_int HNI.out 5 (by omega) (by have := Z2.out; omega); cases en; replace Z38 := Sn.s1 (i := 4) Z38
 refine start_ (n := 21) (S := fun w' => w'.cell? adn = some (.int .i64 (rd ns 0)) ∧ w'.cell? ⟨adn.block, adn.off + 1, none⟩ = some (.int .i64 (rd ns 1)) ∧ w'.cell? ⟨adn.block, adn.off + 2, none⟩ = some (.int .i64 (rd ns 2)) ∧ w'.cell? ⟨adn.block, adn.off + 3, none⟩ = some (.int .i64 (rd ns 3)) ∧ w'.cell? ⟨adn.block, adn.off + 4, none⟩ = some (.int .i64 (rd ns 4)) ∧ w'.cell? ⟨adn.block, adn.off + 5, none⟩ = some (.int .i64 (rd ns 5))) (ds := [20]) #[false, false, false, false, false, false, false, false, false, false, false, false, false, false, false, false, false, false, false, false, false] (by kernel_rfl) rfl rfl ⟨Z33, Z34, Z35, Z36, Z37, Z38⟩ (fun hHeld => ?_)
 generalize Z30.drew = wd at BKp HB HT HH HC HCB HNI Z33 Z34 Z35 Z36 Z37 Z38 hHeld ⊢
 refine pu 0 54 (bl 21 1) ?_
 refine pu 1 55 (bl 21 3) ?_
 refine pu 3 57 (bl 21 11) ?_
 refine pu 4 58 (bl 21 27) ?_
 refine pu 6 60 (bl 21 91) ?_
 refine pu 7 61 (bl 21 219) ?_
 refine pu 9 63 (bl 21 731) ?_
 refine pu 10 64 (bl 21 1755) ?_
 refine pu 12 66 (bl 21 5851) ?_
 refine pu 13 67 (bl 21 14043) ?_
 refine pu 15 69 (bl 21 46811) ?_
 refine pu 16 70 (bl 21 112347) ?_
 refine tk 2 56 (bl 21 112351) ?_ hHeld
 refine tk 5 59 (bl 21 112383) ?_ hHeld
 refine tk 8 62 (bl 21 112639) ?_ hHeld
 refine tk 11 65 (bl 21 114687) ?_ hHeld
 refine tk 14 68 (bl 21 131071) ?_ hHeld
 refine tk 17 71 (bl 21 262143) ?_ hHeld
 refine pu 18 72 (bl 21 524287) ?_
 refine oe 19 8 (bl 21 1048575) (fun K hK => ?_)
 refine box_step ?hg (N := 8) ?hd (cs := #[.int .i64 0, .int .i64 0, .int .i64 0, .int .i64 0, .int .i64 0, .int .i64 0]) (t := 46) ?hr ?_; (case hd => rfl); (case hg => rfl); (case hr => first | (go_simp; done) | (go_simp; rfl))
 intro Z39 hg Z40 hbox hb
 have HBD := ra hb
 have _ := bb (bk BKp) hb
 have _ := bs hb
 have _ := ra (Kd.S_below (Kd.S_elderB (Sn.qS HT) Z39 (Nat.le_of_eq hg.symm)) hb)
 have _ := ra (Kd.R_below (Kd.R_elderB (Sn.qR HH) Z39 (Nat.le_of_eq hg.symm)) hb)
 have _ := ra hbox
 have _ := bz (w0 := w0) hg
 have _ := bn hg (bk BKp)
 have _ := bm hg (bk BKp)
 clear BKp HB HT HH HC HCB
 rename_i BKp HB HT HH Z41 Z42 Z43 Z44
 clear hb hbox hg
 have hnb := Z43.out
 have hnc := Z44.out
 obtain ⟨Z45, Z46, Z47, Z48, Z49, Z50, Z51, Z52, Z53, Z54, Z55, Z56⟩ := zc6 Z41
 refine hK.out _ _ ⟨hc HBD Z33, hc HBD Z34, hc HBD Z35, hc HBD Z36, hc HBD Z37, hc HBD Z38⟩ (fun hHeld => ?_)
 clear hK K
 refine Z.nm 8 ?_
 refine last_ (i := 20) (N := none) #[true, true, true, true, true, true, true, true, true, true, true, true, true, true, true, true, true, true, true, true, true] rfl rfl (by kernel_rfl) (by decide) (fun K hK => ?_)
 refine skip_ (w1 := ?_) (by rfl) rfl ?_ ?_
 rotate_left
 ·go_simp
  rfl
 refine hK.out _ _ ?_
 clear hK K
 refine done_ (by kernel_rfl) ?_
 have _ : Aside0 (((((((Z40.setCell ⟨Z39, 0, none⟩ (.int .i64 (rd ns 0))).setCell ⟨Z39, 1, none⟩ (.int .i64 (rd ns 1))).setCell ⟨Z39, 2, none⟩ (.int .i64 (rd ns 2))).setCell ⟨Z39, 3, none⟩ (.int .i64 (rd ns 3))).setCell ⟨Z39, 4, none⟩ (.int .i64 (rd ns 4))).setCell ⟨Z39, 5, none⟩ (.int .i64 (rd ns 5))).heap[p]? = some (.cells #[.slice A L.length c, .string nm, .slice Ab B.length cb] 40 (0, 0))) := ⟨bk BKp⟩
 have _ : Aside0 (Below w0.heap.size w0 ((((((Z40.setCell ⟨Z39, 0, none⟩ (.int .i64 (rd ns 0))).setCell ⟨Z39, 1, none⟩ (.int .i64 (rd ns 1))).setCell ⟨Z39, 2, none⟩ (.int .i64 (rd ns 2))).setCell ⟨Z39, 3, none⟩ (.int .i64 (rd ns 3))).setCell ⟨Z39, 4, none⟩ (.int .i64 (rd ns 4))).setCell ⟨Z39, 5, none⟩ (.int .i64 (rd ns 5)))) := ⟨bq⟩
 have _ := ra (Kd.S_mono (Kd.S_far (p := ⟨Z39, 5, none⟩) (Kd.S_far (p := ⟨Z39, 4, none⟩) (Kd.S_far (p := ⟨Z39, 3, none⟩) (Kd.S_far (p := ⟨Z39, 2, none⟩) (Kd.S_far (p := ⟨Z39, 1, none⟩) (Kd.S_far (p := ⟨Z39, 0, none⟩) HT.out (fun _ hk => hk.2) (.int .i64 (rd ns 0))) (fun _ hk => hk.2) (.int .i64 (rd ns 1))) (fun _ hk => hk.2) (.int .i64 (rd ns 2))) (fun _ hk => hk.2) (.int .i64 (rd ns 3))) (fun _ hk => hk.2) (.int .i64 (rd ns 4))) (fun _ hk => hk.2) (.int .i64 (rd ns 5))) (fun _ hk => hk.1))
 have _ := ra (Kd.R_mono (Kd.R_far (p := ⟨Z39, 5, none⟩) (Kd.R_far (p := ⟨Z39, 4, none⟩) (Kd.R_far (p := ⟨Z39, 3, none⟩) (Kd.R_far (p := ⟨Z39, 2, none⟩) (Kd.R_far (p := ⟨Z39, 1, none⟩) (Kd.R_far (p := ⟨Z39, 0, none⟩) HH.out (fun _ hk => hk.2) (.int .i64 (rd ns 0))) (fun _ hk => hk.2) (.int .i64 (rd ns 1))) (fun _ hk => hk.2) (.int .i64 (rd ns 2))) (fun _ hk => hk.2) (.int .i64 (rd ns 3))) (fun _ hk => hk.2) (.int .i64 (rd ns 4))) (fun _ hk => hk.2) (.int .i64 (rd ns 5))) (fun _ hk => hk.1))
 have _ : Aside0 (((((((Z40.setCell ⟨Z39, 0, none⟩ (.int .i64 (rd ns 0))).setCell ⟨Z39, 1, none⟩ (.int .i64 (rd ns 1))).setCell ⟨Z39, 2, none⟩ (.int .i64 (rd ns 2))).setCell ⟨Z39, 3, none⟩ (.int .i64 (rd ns 3))).setCell ⟨Z39, 4, none⟩ (.int .i64 (rd ns 4))).setCell ⟨Z39, 5, none⟩ (.int .i64 (rd ns 5))).heap[Z39]? = some (.cells #[.int .i64 (rd ns 0), .int .i64 (rd ns 1), .int .i64 (rd ns 2), .int .i64 (rd ns 3), .int .i64 (rd ns 4), .int .i64 (rd ns 5)] 46 (0, 0))) := ⟨bp Z41⟩
 clear BKp HB HT HH Z41
 rename_i BKp HB HT HH Z41
 clear Z45 Z46 Z47 Z48 Z49 Z50 Z51 Z52 Z53 Z54 Z55 Z56 Z23 Z24 Z25 Z26 Z27 Z28
 generalize ((((((Z40.setCell ⟨Z39, 0, none⟩ (.int .i64 (rd ns 0))).setCell ⟨Z39, 1, none⟩ (.int .i64 (rd ns 1))).setCell ⟨Z39, 2, none⟩ (.int .i64 (rd ns 2))).setCell ⟨Z39, 3, none⟩ (.int .i64 (rd ns 3))).setCell ⟨Z39, 4, none⟩ (.int .i64 (rd ns 4))).setCell ⟨Z39, 5, none⟩ (.int .i64 (rd ns 5))) = Z57 at BKp HB HT HH Z41 ⊢
 have HC := ra (Kd.S_reads' HT.out).2.2
 have HCB := ra (Kd.R_reads' HH.out).2.2
 obtain ⟨Z23, Z24, Z25, Z26, Z27, Z28⟩ := Sn.zc3 BKp
 obtain ⟨Z45, Z46, Z47, Z48, Z49, Z50, Z51, Z52, Z53, Z54, Z55, Z56⟩ := zc6 Z41
 go_wp2_with (first | ((with_reducible refine gc 29 rfl ?_); refine gy (some 74) Tryz.func29 (impl_ProbeBoxOk.calls _ _ _ _ _ _ _ _ HF.out) ?_; rintro Z58 hb; replace BKp := bb (bk BKp) hb; replace HB := bs hb; replace HT := Sn.bT HT hb; replace HH := Sn.bH HH hb; replace HC := Sn.bC HC hb; replace HCB := Sn.bC HCB hb; replace Z41 := bb (bk Z41) hb; clear Z23 Z24 Z25 Z26 Z27 Z28 Z45 Z46 Z47 Z48 Z49 Z50 Z51 Z52 Z53 Z54 Z55 Z56; obtain ⟨Z23, Z24, Z25, Z26, Z27, Z28⟩ := Sn.zc3 BKp; clear hb))
 go_ret
 exact ⟨re, ⟨_, _, bk BKp, Sn.qS HT, Sn.qR HH, GEp.out⟩, bq⟩
theorem Sn.ia_boxFull (k p : Nat) (L : List S33) (nm : ByteArray) (B : List S46) (line : ByteArray) (ws : List ByteArray) (w0 w : World) (hB : Below w0.heap.size w0 w) (hWG : Lb.WG w0) (hS : St 40 w w0.heap.size p L nm B) (hs : Lb.split.f line (⟨#[32]⟩ : ByteArray) = some ws) (h0 : 0 < ws.length) (hW : (rdOf ByteArray.empty ws 0).toList = [98, 111, 120]) (hlen : ws.length = 7) (hl_put : line.toList ≠ [112, 117, 116]) (hl_all : line.toList ≠ [97, 108, 108]) (hl_with : line.toList ≠ [119, 105, 116, 104]) (hl_free : line.toList ≠ [102, 114, 101, 101]) (ns : List Int) (hk : impl_numbers.f k (ws.drop 1) = some (ns, true)) (h6 : 6 ≤ ns.length) (hf : impl_ProbeBoxOk.f (rd ns 0) (rd ns 1) (rd ns 2) (rd ns 3) (rd ns 4) (rd ns 5) = some true) (hb40 : 40 ≤ B.length) :
  Calls Tryz.prog 11 #[.pointer (some ⟨p, 0, none⟩), .string line] w fun e w' => e = .returned (.string (⟨#[110, 111]⟩ : ByteArray)) ∧ St 40 w' w0.heap.size p L nm B ∧ Below w0.heap.size w0 w' := by
 obtain ⟨A, c, Ab, cb, BKp, HT, HH, HC, HCB, HLC, HLB, GEp⟩ := Sn.op hS
 have HB := ra hB; have HWG := ra hWG; have HS := ra hs
 clear hB hWG hs
 obtain ⟨fw_tube, fw_box, fw_drop, fw_meet, fw_cut⟩ := fi_box hW
 have fl_put := beq_eq_false_iff_ne.mpr hl_put
 have fl_all := beq_eq_false_iff_ne.mpr hl_all
 have fl_with := beq_eq_false_iff_ne.mpr hl_with
 have fl_free := beq_eq_false_iff_ne.mpr hl_free
 have fn : ((ws.length : Int) == 7) = true := beq_iff_eq.mpr (by omega)
 have Z0 := ki 0 (ws.length : Int)
 have Z1 : (0 < ws.length) = True := eq_true h0
 have H0 := ra h0
 have HK := ra hk; clear hk; have HN := ra hlen; have fcw : ∀ x : Nat, ws.length ≤ x → (x = 1) = False := fun x hx => eq_false (by omega); have HF := ra hf; clear hf; have Z2 := ra h6; have Z3 := Tryz.underlying46; have Z4 : decide ((40 : Int) ≤ (B.length : Int)) = true := decide_eq_true (by omega); have Z5 := ra hb40; clear hb40
 have Z6 := ki 0 (ns.length : Int); have Z7 := kn 0 ns.length
 have Z8 := ki 1 (ns.length : Int); have Z9 := kn 1 ns.length
 have Z10 := ki 2 (ns.length : Int); have Z11 := kn 2 ns.length
 have Z12 := ki 3 (ns.length : Int); have Z13 := kn 3 ns.length
 have Z14 := ki 4 (ns.length : Int); have Z15 := kn 4 ns.length
 have Z16 := ki 5 (ns.length : Int); have Z17 := kn 5 ns.length
 clear h6
 clear hW hlen hl_put hl_all hl_with hl_free
 have Z18 := Tryz.underlying40; have Z19 := Tryz.underlying55; have Z20 := Tryz.underlying33
 go_enter Tryz.func11, Tryz.ntmps11
 go_wp2_with (first | ((with_reducible refine gc 10 rfl ?_); refine gm (some 18) Tryz.func10 (Lb.split.calls _ _ _ _ (Lb.wg HWG) HS.out) ?_; rintro e Z21 ⟨Z22, rfl, Z23, hb⟩; obtain ⟨Aw, cw, rfl, hlw, hCw⟩ := Kd.R_reads Z23; refine ⟨_, rfl, ?_⟩; replace BKp := bb (bk BKp) hb; replace HB := bs hb; replace HT := Sn.bT HT hb; replace HH := Sn.bH HH hb; replace HC := Sn.bC HC hb; replace HCB := Sn.bC HCB hb; obtain ⟨adw, ew, Z24⟩ := Kd.at_string hCw 0 (Int.le_refl _) (by have := H0.out; omega); cases ew; replace Z24 := Sn.s0 Z24; have HW := ra hCw; have HLW := ra hlw; clear hb Z23 hCw hlw; obtain ⟨Z25, Z26, Z27, Z28, Z29, Z30⟩ := Sn.zc3 BKp; have Z31 := fcw cw HLW.out; clear fcw) | ((with_reducible refine gc 28 rfl ?_); refine gm (some 49) Tryz.func28 (Sn.numbers1 k adw cw ws ns true _ (Sn.qC HW) HLW.out (by have := HN.out; omega) HK.out) ?_; rintro e Z32 ⟨Z33, rfl, Z34, hb⟩; obtain ⟨An, cn, rfl, hln, hCn⟩ := Kd.R_reads Z34; refine ⟨_, rfl, ?_⟩; have HNI := ra hCn; have HLN := ra hln; replace BKp := bb (bk BKp) hb; replace HB := bs hb; replace HT := Sn.bT HT hb; replace HH := Sn.bH HH hb; replace HC := Sn.bC HC hb; replace HCB := Sn.bC HCB hb; clear hb Z34 hCn hln Z24 HW))
 have HNI := Sn.drC HNI; have _ := ra (blk_drew BKp.out); have _ := ra (below_drew1 HB.out); have _ := Sn.drT HT; have _ := Sn.drH HH; have _ := Sn.drC HC; have _ := Sn.drC HCB
 clear BKp HB HT HH HC HCB
 rename_i BKp HB HT HH HC HCB
 obtain ⟨adn, en, Z35⟩ := Kd.at_int HNI.out 0 (Int.le_refl _) (by have := Z2.out; omega); cases en; replace Z35 := Sn.s0 Z35
 obtain ⟨_, en, Z36⟩ := Kd.at_int HNI.out 1 (by omega) (by have := Z2.out; omega); cases en; replace Z36 := Sn.s1 (i := 0) Z36
 obtain ⟨_, en, Z37⟩ := Kd.at_int HNI.out 2 (by omega) (by have := Z2.out; omega); cases en; replace Z37 := Sn.s1 (i := 1) Z37
 obtain ⟨_, en, Z38⟩ := Kd.at_int HNI.out 3 (by omega) (by have := Z2.out; omega); cases en; replace Z38 := Sn.s1 (i := 2) Z38
 obtain ⟨_, en, Z39⟩ := Kd.at_int HNI.out 4 (by omega) (by have := Z2.out; omega); cases en; replace Z39 := Sn.s1 (i := 3) Z39
 obtain ⟨_, en, Z40⟩ := Kd.at_int HNI.out 5 (by omega) (by have := Z2.out; omega); cases en; replace Z40 := Sn.s1 (i := 4) Z40
 refine start_ (n := 21) (S := fun w' => w'.cell? adn = some (.int .i64 (rd ns 0)) ∧ w'.cell? ⟨adn.block, adn.off + 1, none⟩ = some (.int .i64 (rd ns 1)) ∧ w'.cell? ⟨adn.block, adn.off + 2, none⟩ = some (.int .i64 (rd ns 2)) ∧ w'.cell? ⟨adn.block, adn.off + 3, none⟩ = some (.int .i64 (rd ns 3)) ∧ w'.cell? ⟨adn.block, adn.off + 4, none⟩ = some (.int .i64 (rd ns 4)) ∧ w'.cell? ⟨adn.block, adn.off + 5, none⟩ = some (.int .i64 (rd ns 5))) (ds := [20]) #[false, false, false, false, false, false, false, false, false, false, false, false, false, false, false, false, false, false, false, false, false] (by kernel_rfl) rfl rfl ⟨Z35, Z36, Z37, Z38, Z39, Z40⟩ (fun hHeld => ?_)
 generalize Z32.drew = wd at BKp HB HT HH HC HCB HNI Z35 Z36 Z37 Z38 Z39 Z40 hHeld ⊢
 refine pu 0 54 (bl 21 1) ?_
 refine pu 1 55 (bl 21 3) ?_
 refine pu 3 57 (bl 21 11) ?_
 refine pu 4 58 (bl 21 27) ?_
 refine pu 6 60 (bl 21 91) ?_
 refine pu 7 61 (bl 21 219) ?_
 refine pu 9 63 (bl 21 731) ?_
 refine pu 10 64 (bl 21 1755) ?_
 refine pu 12 66 (bl 21 5851) ?_
 refine pu 13 67 (bl 21 14043) ?_
 refine pu 15 69 (bl 21 46811) ?_
 refine pu 16 70 (bl 21 112347) ?_
 refine tk 2 56 (bl 21 112351) ?_ hHeld
 refine tk 5 59 (bl 21 112383) ?_ hHeld
 refine tk 8 62 (bl 21 112639) ?_ hHeld
 refine tk 11 65 (bl 21 114687) ?_ hHeld
 refine tk 14 68 (bl 21 131071) ?_ hHeld
 refine tk 17 71 (bl 21 262143) ?_ hHeld
 refine pu 18 72 (bl 21 524287) ?_
 refine oe 19 8 (bl 21 1048575) (fun K hK => ?_)
 refine box_step ?hg (N := 8) ?hd (cs := #[.int .i64 0, .int .i64 0, .int .i64 0, .int .i64 0, .int .i64 0, .int .i64 0]) (t := 46) ?hr ?_; (case hd => rfl); (case hg => rfl); (case hr => first | (go_simp; done) | (go_simp; rfl))
 intro Z41 hg Z42 hbox hb
 have HBD := ra hb
 have _ := bb (bk BKp) hb
 have _ := bs hb
 have _ := ra (Kd.S_below (Kd.S_elderB (Sn.qS HT) Z41 (Nat.le_of_eq hg.symm)) hb)
 have _ := ra (Kd.R_below (Kd.R_elderB (Sn.qR HH) Z41 (Nat.le_of_eq hg.symm)) hb)
 have _ := ra hbox
 have _ := bz (w0 := w0) hg
 have _ := bn hg (bk BKp)
 have _ := bm hg (bk BKp)
 clear BKp HB HT HH HC HCB
 rename_i BKp HB HT HH Z43 Z44 Z45 Z46
 clear hb hbox hg
 have hnb := Z45.out
 have hnc := Z46.out
 obtain ⟨Z47, Z48, Z49, Z50, Z51, Z52, Z53, Z54, Z55, Z56, Z57, Z58⟩ := zc6 Z43
 refine hK.out _ _ ⟨hc HBD Z35, hc HBD Z36, hc HBD Z37, hc HBD Z38, hc HBD Z39, hc HBD Z40⟩ (fun hHeld => ?_)
 clear hK K
 refine Z.nm 8 ?_
 refine last_ (i := 20) (N := none) #[true, true, true, true, true, true, true, true, true, true, true, true, true, true, true, true, true, true, true, true, true] rfl rfl (by kernel_rfl) (by decide) (fun K hK => ?_)
 refine skip_ (w1 := ?_) (by rfl) rfl ?_ ?_
 rotate_left
 ·go_simp
  rfl
 refine hK.out _ _ ?_
 clear hK K
 refine done_ (by kernel_rfl) ?_
 have _ : Aside0 (((((((Z42.setCell ⟨Z41, 0, none⟩ (.int .i64 (rd ns 0))).setCell ⟨Z41, 1, none⟩ (.int .i64 (rd ns 1))).setCell ⟨Z41, 2, none⟩ (.int .i64 (rd ns 2))).setCell ⟨Z41, 3, none⟩ (.int .i64 (rd ns 3))).setCell ⟨Z41, 4, none⟩ (.int .i64 (rd ns 4))).setCell ⟨Z41, 5, none⟩ (.int .i64 (rd ns 5))).heap[p]? = some (.cells #[.slice A L.length c, .string nm, .slice Ab B.length cb] 40 (0, 0))) := ⟨bk BKp⟩
 have _ : Aside0 (Below w0.heap.size w0 ((((((Z42.setCell ⟨Z41, 0, none⟩ (.int .i64 (rd ns 0))).setCell ⟨Z41, 1, none⟩ (.int .i64 (rd ns 1))).setCell ⟨Z41, 2, none⟩ (.int .i64 (rd ns 2))).setCell ⟨Z41, 3, none⟩ (.int .i64 (rd ns 3))).setCell ⟨Z41, 4, none⟩ (.int .i64 (rd ns 4))).setCell ⟨Z41, 5, none⟩ (.int .i64 (rd ns 5)))) := ⟨bq⟩
 have _ := ra (Kd.S_mono (Kd.S_far (p := ⟨Z41, 5, none⟩) (Kd.S_far (p := ⟨Z41, 4, none⟩) (Kd.S_far (p := ⟨Z41, 3, none⟩) (Kd.S_far (p := ⟨Z41, 2, none⟩) (Kd.S_far (p := ⟨Z41, 1, none⟩) (Kd.S_far (p := ⟨Z41, 0, none⟩) HT.out (fun _ hk => hk.2) (.int .i64 (rd ns 0))) (fun _ hk => hk.2) (.int .i64 (rd ns 1))) (fun _ hk => hk.2) (.int .i64 (rd ns 2))) (fun _ hk => hk.2) (.int .i64 (rd ns 3))) (fun _ hk => hk.2) (.int .i64 (rd ns 4))) (fun _ hk => hk.2) (.int .i64 (rd ns 5))) (fun _ hk => hk.1))
 have _ := ra (Kd.R_mono (Kd.R_far (p := ⟨Z41, 5, none⟩) (Kd.R_far (p := ⟨Z41, 4, none⟩) (Kd.R_far (p := ⟨Z41, 3, none⟩) (Kd.R_far (p := ⟨Z41, 2, none⟩) (Kd.R_far (p := ⟨Z41, 1, none⟩) (Kd.R_far (p := ⟨Z41, 0, none⟩) HH.out (fun _ hk => hk.2) (.int .i64 (rd ns 0))) (fun _ hk => hk.2) (.int .i64 (rd ns 1))) (fun _ hk => hk.2) (.int .i64 (rd ns 2))) (fun _ hk => hk.2) (.int .i64 (rd ns 3))) (fun _ hk => hk.2) (.int .i64 (rd ns 4))) (fun _ hk => hk.2) (.int .i64 (rd ns 5))) (fun _ hk => hk.1))
 have _ : Aside0 (((((((Z42.setCell ⟨Z41, 0, none⟩ (.int .i64 (rd ns 0))).setCell ⟨Z41, 1, none⟩ (.int .i64 (rd ns 1))).setCell ⟨Z41, 2, none⟩ (.int .i64 (rd ns 2))).setCell ⟨Z41, 3, none⟩ (.int .i64 (rd ns 3))).setCell ⟨Z41, 4, none⟩ (.int .i64 (rd ns 4))).setCell ⟨Z41, 5, none⟩ (.int .i64 (rd ns 5))).heap[Z41]? = some (.cells #[.int .i64 (rd ns 0), .int .i64 (rd ns 1), .int .i64 (rd ns 2), .int .i64 (rd ns 3), .int .i64 (rd ns 4), .int .i64 (rd ns 5)] 46 (0, 0))) := ⟨bp Z43⟩
 clear BKp HB HT HH Z43
 rename_i BKp HB HT HH Z43
 clear Z47 Z48 Z49 Z50 Z51 Z52 Z53 Z54 Z55 Z56 Z57 Z58 Z25 Z26 Z27 Z28 Z29 Z30
 generalize ((((((Z42.setCell ⟨Z41, 0, none⟩ (.int .i64 (rd ns 0))).setCell ⟨Z41, 1, none⟩ (.int .i64 (rd ns 1))).setCell ⟨Z41, 2, none⟩ (.int .i64 (rd ns 2))).setCell ⟨Z41, 3, none⟩ (.int .i64 (rd ns 3))).setCell ⟨Z41, 4, none⟩ (.int .i64 (rd ns 4))).setCell ⟨Z41, 5, none⟩ (.int .i64 (rd ns 5))) = Z59 at BKp HB HT HH Z43 ⊢
 have HC := ra (Kd.S_reads' HT.out).2.2
 have HCB := ra (Kd.R_reads' HH.out).2.2
 obtain ⟨Z25, Z26, Z27, Z28, Z29, Z30⟩ := Sn.zc3 BKp
 obtain ⟨Z47, Z48, Z49, Z50, Z51, Z52, Z53, Z54, Z55, Z56, Z57, Z58⟩ := zc6 Z43
 go_wp2_with (first | ((with_reducible refine gc 29 rfl ?_); refine gy (some 74) Tryz.func29 (impl_ProbeBoxOk.calls _ _ _ _ _ _ _ _ HF.out) ?_; rintro Z60 hb; replace BKp := bb (bk BKp) hb; replace HB := bs hb; replace HT := Sn.bT HT hb; replace HH := Sn.bH HH hb; replace HC := Sn.bC HC hb; replace HCB := Sn.bC HCB hb; replace Z43 := bb (bk Z43) hb; clear Z25 Z26 Z27 Z28 Z29 Z30 Z47 Z48 Z49 Z50 Z51 Z52 Z53 Z54 Z55 Z56 Z57 Z58; obtain ⟨Z25, Z26, Z27, Z28, Z29, Z30⟩ := Sn.zc3 BKp; clear hb))
 go_ret
 exact ⟨re, ⟨_, _, bk BKp, Sn.qS HT, Sn.qR HH, GEp.out⟩, bq⟩
theorem Sn.ia_boxOk (k p : Nat) (L : List S33) (nm : ByteArray) (B : List S46) (line : ByteArray) (ws : List ByteArray) (w0 w : World) (hB : Below w0.heap.size w0 w) (hWG : Lb.WG w0) (hS : St 40 w w0.heap.size p L nm B) (hs : Lb.split.f line (⟨#[32]⟩ : ByteArray) = some ws) (h0 : 0 < ws.length) (hW : (rdOf ByteArray.empty ws 0).toList = [98, 111, 120]) (hlen : ws.length = 7) (hl_put : line.toList ≠ [112, 117, 116]) (hl_all : line.toList ≠ [97, 108, 108]) (hl_with : line.toList ≠ [119, 105, 116, 104]) (hl_free : line.toList ≠ [102, 114, 101, 101]) (ns : List Int) (hk : impl_numbers.f k (ws.drop 1) = some (ns, true)) (h6 : 6 ≤ ns.length) (hf : impl_ProbeBoxOk.f (rd ns 0) (rd ns 1) (rd ns 2) (rd ns 3) (rd ns 4) (rd ns 5) = some true) (hb40 : B.length < 40) :
  Calls Tryz.prog 11 #[.pointer (some ⟨p, 0, none⟩), .string line] w fun e w' => e = .returned (.string (⟨#[111, 107]⟩ : ByteArray)) ∧ St 40 w' w0.heap.size p L nm (B ++ [(⟨(rd ns 0), (rd ns 1), (rd ns 2), (rd ns 3), (rd ns 4), (rd ns 5)⟩ : S46)]) ∧ Below w0.heap.size w0 w' := by
 obtain ⟨A, c, Ab, cb, BKp, HT, HH, HC, HCB, HLC, HLB, GEp⟩ := Sn.op hS
 have HB := ra hB; have HWG := ra hWG; have HS := ra hs
 clear hB hWG hs
 obtain ⟨fw_tube, fw_box, fw_drop, fw_meet, fw_cut⟩ := fi_box hW
 have fl_put := beq_eq_false_iff_ne.mpr hl_put
 have fl_all := beq_eq_false_iff_ne.mpr hl_all
 have fl_with := beq_eq_false_iff_ne.mpr hl_with
 have fl_free := beq_eq_false_iff_ne.mpr hl_free
 have fn : ((ws.length : Int) == 7) = true := beq_iff_eq.mpr (by omega)
 have Z0 := ki 0 (ws.length : Int)
 have Z1 : (0 < ws.length) = True := eq_true h0
 have H0 := ra h0
 have HK := ra hk; clear hk; have HN := ra hlen; have fcw : ∀ x : Nat, ws.length ≤ x → (x = 1) = False := fun x hx => eq_false (by omega); have HF := ra hf; clear hf; have Z2 := ra h6; have Z3 := Tryz.underlying46; have Z4 : decide ((40 : Int) ≤ (B.length : Int)) = false := decide_eq_false (by omega); have Z5 := ra hb40; clear hb40
 have Z6 := ki 0 (ns.length : Int); have Z7 := kn 0 ns.length
 have Z8 := ki 1 (ns.length : Int); have Z9 := kn 1 ns.length
 have Z10 := ki 2 (ns.length : Int); have Z11 := kn 2 ns.length
 have Z12 := ki 3 (ns.length : Int); have Z13 := kn 3 ns.length
 have Z14 := ki 4 (ns.length : Int); have Z15 := kn 4 ns.length
 have Z16 := ki 5 (ns.length : Int); have Z17 := kn 5 ns.length
 clear h6
 clear hW hlen hl_put hl_all hl_with hl_free
 have Z18 := Tryz.underlying40; have Z19 := Tryz.underlying55; have Z20 := Tryz.underlying33
 go_enter Tryz.func11, Tryz.ntmps11
 go_wp2_with (first | ((with_reducible refine gc 10 rfl ?_); refine gm (some 18) Tryz.func10 (Lb.split.calls _ _ _ _ (Lb.wg HWG) HS.out) ?_; rintro e Z21 ⟨Z22, rfl, Z23, hb⟩; obtain ⟨Aw, cw, rfl, hlw, hCw⟩ := Kd.R_reads Z23; refine ⟨_, rfl, ?_⟩; replace BKp := bb (bk BKp) hb; replace HB := bs hb; replace HT := Sn.bT HT hb; replace HH := Sn.bH HH hb; replace HC := Sn.bC HC hb; replace HCB := Sn.bC HCB hb; obtain ⟨adw, ew, Z24⟩ := Kd.at_string hCw 0 (Int.le_refl _) (by have := H0.out; omega); cases ew; replace Z24 := Sn.s0 Z24; have HW := ra hCw; have HLW := ra hlw; clear hb Z23 hCw hlw; obtain ⟨Z25, Z26, Z27, Z28, Z29, Z30⟩ := Sn.zc3 BKp; have Z31 := fcw cw HLW.out; clear fcw) | ((with_reducible refine gc 28 rfl ?_); refine gm (some 49) Tryz.func28 (Sn.numbers1 k adw cw ws ns true _ (Sn.qC HW) HLW.out (by have := HN.out; omega) HK.out) ?_; rintro e Z32 ⟨Z33, rfl, Z34, hb⟩; obtain ⟨An, cn, rfl, hln, hCn⟩ := Kd.R_reads Z34; refine ⟨_, rfl, ?_⟩; have HNI := ra hCn; have HLN := ra hln; replace BKp := bb (bk BKp) hb; replace HB := bs hb; replace HT := Sn.bT HT hb; replace HH := Sn.bH HH hb; replace HC := Sn.bC HC hb; replace HCB := Sn.bC HCB hb; clear hb Z34 hCn hln Z24 HW))
 have HNI := Sn.drC HNI; have _ := ra (blk_drew BKp.out); have _ := ra (below_drew1 HB.out); have _ := Sn.drT HT; have _ := Sn.drH HH; have _ := Sn.drC HC; have _ := Sn.drC HCB
 clear BKp HB HT HH HC HCB
 rename_i BKp HB HT HH HC HCB
 obtain ⟨adn, en, Z35⟩ := Kd.at_int HNI.out 0 (Int.le_refl _) (by have := Z2.out; omega); cases en; replace Z35 := Sn.s0 Z35
 obtain ⟨_, en, Z36⟩ := Kd.at_int HNI.out 1 (by omega) (by have := Z2.out; omega); cases en; replace Z36 := Sn.s1 (i := 0) Z36
 obtain ⟨_, en, Z37⟩ := Kd.at_int HNI.out 2 (by omega) (by have := Z2.out; omega); cases en; replace Z37 := Sn.s1 (i := 1) Z37
 obtain ⟨_, en, Z38⟩ := Kd.at_int HNI.out 3 (by omega) (by have := Z2.out; omega); cases en; replace Z38 := Sn.s1 (i := 2) Z38
 obtain ⟨_, en, Z39⟩ := Kd.at_int HNI.out 4 (by omega) (by have := Z2.out; omega); cases en; replace Z39 := Sn.s1 (i := 3) Z39
 obtain ⟨_, en, Z40⟩ := Kd.at_int HNI.out 5 (by omega) (by have := Z2.out; omega); cases en; replace Z40 := Sn.s1 (i := 4) Z40
 refine start_ (n := 21) (S := fun w' => w'.cell? adn = some (.int .i64 (rd ns 0)) ∧ w'.cell? ⟨adn.block, adn.off + 1, none⟩ = some (.int .i64 (rd ns 1)) ∧ w'.cell? ⟨adn.block, adn.off + 2, none⟩ = some (.int .i64 (rd ns 2)) ∧ w'.cell? ⟨adn.block, adn.off + 3, none⟩ = some (.int .i64 (rd ns 3)) ∧ w'.cell? ⟨adn.block, adn.off + 4, none⟩ = some (.int .i64 (rd ns 4)) ∧ w'.cell? ⟨adn.block, adn.off + 5, none⟩ = some (.int .i64 (rd ns 5))) (ds := [20]) #[false, false, false, false, false, false, false, false, false, false, false, false, false, false, false, false, false, false, false, false, false] (by kernel_rfl) rfl rfl ⟨Z35, Z36, Z37, Z38, Z39, Z40⟩ (fun hHeld => ?_)
 generalize Z32.drew = wd at BKp HB HT HH HC HCB HNI Z35 Z36 Z37 Z38 Z39 Z40 hHeld ⊢
 refine pu 0 54 (bl 21 1) ?_
 refine pu 1 55 (bl 21 3) ?_
 refine pu 3 57 (bl 21 11) ?_
 refine pu 4 58 (bl 21 27) ?_
 refine pu 6 60 (bl 21 91) ?_
 refine pu 7 61 (bl 21 219) ?_
 refine pu 9 63 (bl 21 731) ?_
 refine pu 10 64 (bl 21 1755) ?_
 refine pu 12 66 (bl 21 5851) ?_
 refine pu 13 67 (bl 21 14043) ?_
 refine pu 15 69 (bl 21 46811) ?_
 refine pu 16 70 (bl 21 112347) ?_
 refine tk 2 56 (bl 21 112351) ?_ hHeld
 refine tk 5 59 (bl 21 112383) ?_ hHeld
 refine tk 8 62 (bl 21 112639) ?_ hHeld
 refine tk 11 65 (bl 21 114687) ?_ hHeld
 refine tk 14 68 (bl 21 131071) ?_ hHeld
 refine tk 17 71 (bl 21 262143) ?_ hHeld
 refine pu 18 72 (bl 21 524287) ?_
 refine oe 19 8 (bl 21 1048575) (fun K hK => ?_)
 refine box_step ?hg (N := 8) ?hd (cs := #[.int .i64 0, .int .i64 0, .int .i64 0, .int .i64 0, .int .i64 0, .int .i64 0]) (t := 46) ?hr ?_; (case hd => rfl); (case hg => rfl); (case hr => first | (go_simp; done) | (go_simp; rfl))
 intro Z41 hg Z42 hbox hb
 have HBD := ra hb
 have _ := bb (bk BKp) hb
 have _ := bs hb
 have _ := ra (Kd.S_below (Kd.S_elderB (Sn.qS HT) Z41 (Nat.le_of_eq hg.symm)) hb)
 have _ := ra (Kd.R_below (Kd.R_elderB (Sn.qR HH) Z41 (Nat.le_of_eq hg.symm)) hb)
 have _ := ra hbox
 have _ := bz (w0 := w0) hg
 have _ := bn hg (bk BKp)
 have _ := bm hg (bk BKp)
 clear BKp HB HT HH HC HCB
 rename_i BKp HB HT HH Z43 Z44 Z45 Z46
 clear hb hbox hg
 have hnb := Z45.out
 have hnc := Z46.out
 obtain ⟨Z47, Z48, Z49, Z50, Z51, Z52, Z53, Z54, Z55, Z56, Z57, Z58⟩ := zc6 Z43
 refine hK.out _ _ ⟨hc HBD Z35, hc HBD Z36, hc HBD Z37, hc HBD Z38, hc HBD Z39, hc HBD Z40⟩ (fun hHeld => ?_)
 clear hK K
 refine Z.nm 8 ?_
 refine last_ (i := 20) (N := none) #[true, true, true, true, true, true, true, true, true, true, true, true, true, true, true, true, true, true, true, true, true] rfl rfl (by kernel_rfl) (by decide) (fun K hK => ?_)
 refine skip_ (w1 := ?_) (by rfl) rfl ?_ ?_
 rotate_left
 ·go_simp
  rfl
 refine hK.out _ _ ?_
 clear hK K
 refine done_ (by kernel_rfl) ?_
 have _ : Aside0 (((((((Z42.setCell ⟨Z41, 0, none⟩ (.int .i64 (rd ns 0))).setCell ⟨Z41, 1, none⟩ (.int .i64 (rd ns 1))).setCell ⟨Z41, 2, none⟩ (.int .i64 (rd ns 2))).setCell ⟨Z41, 3, none⟩ (.int .i64 (rd ns 3))).setCell ⟨Z41, 4, none⟩ (.int .i64 (rd ns 4))).setCell ⟨Z41, 5, none⟩ (.int .i64 (rd ns 5))).heap[p]? = some (.cells #[.slice A L.length c, .string nm, .slice Ab B.length cb] 40 (0, 0))) := ⟨bk BKp⟩
 have _ : Aside0 (Below w0.heap.size w0 ((((((Z42.setCell ⟨Z41, 0, none⟩ (.int .i64 (rd ns 0))).setCell ⟨Z41, 1, none⟩ (.int .i64 (rd ns 1))).setCell ⟨Z41, 2, none⟩ (.int .i64 (rd ns 2))).setCell ⟨Z41, 3, none⟩ (.int .i64 (rd ns 3))).setCell ⟨Z41, 4, none⟩ (.int .i64 (rd ns 4))).setCell ⟨Z41, 5, none⟩ (.int .i64 (rd ns 5)))) := ⟨bq⟩
 have _ := ra (Kd.S_mono (Kd.S_far (p := ⟨Z41, 5, none⟩) (Kd.S_far (p := ⟨Z41, 4, none⟩) (Kd.S_far (p := ⟨Z41, 3, none⟩) (Kd.S_far (p := ⟨Z41, 2, none⟩) (Kd.S_far (p := ⟨Z41, 1, none⟩) (Kd.S_far (p := ⟨Z41, 0, none⟩) HT.out (fun _ hk => hk.2) (.int .i64 (rd ns 0))) (fun _ hk => hk.2) (.int .i64 (rd ns 1))) (fun _ hk => hk.2) (.int .i64 (rd ns 2))) (fun _ hk => hk.2) (.int .i64 (rd ns 3))) (fun _ hk => hk.2) (.int .i64 (rd ns 4))) (fun _ hk => hk.2) (.int .i64 (rd ns 5))) (fun _ hk => hk.1))
 have _ := ra (Kd.R_mono (Kd.R_far (p := ⟨Z41, 5, none⟩) (Kd.R_far (p := ⟨Z41, 4, none⟩) (Kd.R_far (p := ⟨Z41, 3, none⟩) (Kd.R_far (p := ⟨Z41, 2, none⟩) (Kd.R_far (p := ⟨Z41, 1, none⟩) (Kd.R_far (p := ⟨Z41, 0, none⟩) HH.out (fun _ hk => hk.2) (.int .i64 (rd ns 0))) (fun _ hk => hk.2) (.int .i64 (rd ns 1))) (fun _ hk => hk.2) (.int .i64 (rd ns 2))) (fun _ hk => hk.2) (.int .i64 (rd ns 3))) (fun _ hk => hk.2) (.int .i64 (rd ns 4))) (fun _ hk => hk.2) (.int .i64 (rd ns 5))) (fun _ hk => hk.1))
 have _ : Aside0 (((((((Z42.setCell ⟨Z41, 0, none⟩ (.int .i64 (rd ns 0))).setCell ⟨Z41, 1, none⟩ (.int .i64 (rd ns 1))).setCell ⟨Z41, 2, none⟩ (.int .i64 (rd ns 2))).setCell ⟨Z41, 3, none⟩ (.int .i64 (rd ns 3))).setCell ⟨Z41, 4, none⟩ (.int .i64 (rd ns 4))).setCell ⟨Z41, 5, none⟩ (.int .i64 (rd ns 5))).heap[Z41]? = some (.cells #[.int .i64 (rd ns 0), .int .i64 (rd ns 1), .int .i64 (rd ns 2), .int .i64 (rd ns 3), .int .i64 (rd ns 4), .int .i64 (rd ns 5)] 46 (0, 0))) := ⟨bp Z43⟩
 clear BKp HB HT HH Z43
 rename_i BKp HB HT HH Z43
 clear Z47 Z48 Z49 Z50 Z51 Z52 Z53 Z54 Z55 Z56 Z57 Z58 Z25 Z26 Z27 Z28 Z29 Z30
 generalize ((((((Z42.setCell ⟨Z41, 0, none⟩ (.int .i64 (rd ns 0))).setCell ⟨Z41, 1, none⟩ (.int .i64 (rd ns 1))).setCell ⟨Z41, 2, none⟩ (.int .i64 (rd ns 2))).setCell ⟨Z41, 3, none⟩ (.int .i64 (rd ns 3))).setCell ⟨Z41, 4, none⟩ (.int .i64 (rd ns 4))).setCell ⟨Z41, 5, none⟩ (.int .i64 (rd ns 5))) = Z59 at BKp HB HT HH Z43 ⊢
 have HC := ra (Kd.S_reads' HT.out).2.2
 have HCB := ra (Kd.R_reads' HH.out).2.2
 obtain ⟨Z25, Z26, Z27, Z28, Z29, Z30⟩ := Sn.zc3 BKp
 obtain ⟨Z47, Z48, Z49, Z50, Z51, Z52, Z53, Z54, Z55, Z56, Z57, Z58⟩ := zc6 Z43
 try go_wp2_with (first | ((with_reducible refine gc 29 rfl ?_); refine gy (some 74) Tryz.func29 (impl_ProbeBoxOk.calls _ _ _ _ _ _ _ _ HF.out) ?_; rintro Z60 hb; replace BKp := bb (bk BKp) hb; replace HB := bs hb; replace HT := Sn.bT HT hb; replace HH := Sn.bH HH hb; replace HC := Sn.bC HC hb; replace HCB := Sn.bC HCB hb; replace Z43 := bb (bk Z43) hb; clear Z25 Z26 Z27 Z28 Z29 Z30 Z47 Z48 Z49 Z50 Z51 Z52 Z53 Z54 Z55 Z56 Z57 Z58; obtain ⟨Z25, Z26, Z27, Z28, Z29, Z30⟩ := Sn.zc3 BKp; clear hb))
 have _ := ra (blk_drew BKp.out); have _ := ra (below_drew1 HB.out); have _ := ra (blk_drew Z43.out); have _ := Sn.drT HT; have _ := Sn.drH HH
 clear BKp HB Z43 HT HH HC HCB
 rename_i BKp HB Z43 HT HH
 refine start_ (n := 13) (S := fun w' => w'.cell? ⟨p, 2, none⟩ = some (.slice Ab B.length cb) ∧ w'.cell? ⟨Z41, 0, none⟩ = some (.int .i64 (rd ns 0)) ∧ w'.cell? ⟨Z41, 1, none⟩ = some (.int .i64 (rd ns 1)) ∧ w'.cell? ⟨Z41, 2, none⟩ = some (.int .i64 (rd ns 2)) ∧ w'.cell? ⟨Z41, 3, none⟩ = some (.int .i64 (rd ns 3)) ∧ w'.cell? ⟨Z41, 4, none⟩ = some (.int .i64 (rd ns 4)) ∧ w'.cell? ⟨Z41, 5, none⟩ = some (.int .i64 (rd ns 5))) (ds := [8, 12]) #[false, false, false, false, false, false, false, false, false, false, false, false, false] (by kernel_rfl) rfl rfl ⟨(blk_cell BKp.out 2).trans rfl, (blk_cell Z43.out 0).trans rfl, (blk_cell Z43.out 1).trans rfl, (blk_cell Z43.out 2).trans rfl, (blk_cell Z43.out 3).trans rfl, (blk_cell Z43.out 4).trans rfl, (blk_cell Z43.out 5).trans rfl⟩ (fun hHeld => ?_)
 clear Z25 Z26 Z27 Z28 Z29 Z30
 generalize Z60.drew = wf at BKp HB Z43 HT HH hHeld ⊢
 refine pu 0 85 (bl 13 1) ?_
 refine pu 1 86 (bl 13 3) ?_
 refine pu 2 87 (bl 13 7) ?_
 refine pu 3 88 (bl 13 15) ?_
 refine pu 4 89 (bl 13 31) ?_
 refine tk 5 90 (bl 13 63) ?_ hHeld
 refine tk 6 91 (bl 13 127) ?_ hHeld
 refine oe 7 92 (bl 13 255) (fun K hK => ?_)
 refine value_ (w1 := ?_) (v := ?_) (by rfl) rfl ?_ ?_
 rotate_left 2
 ·go_simp
  constructor
  ·rfl
  ·rfl
 refine hK.out _ _ ⟨(blk_cell (blk_alloc BKp.out _) 2).trans rfl, (blk_cell (blk_alloc Z43.out _) 0).trans rfl, (blk_cell (blk_alloc Z43.out _) 1).trans rfl, (blk_cell (blk_alloc Z43.out _) 2).trans rfl, (blk_cell (blk_alloc Z43.out _) 3).trans rfl, (blk_cell (blk_alloc Z43.out _) 4).trans rfl, (blk_cell (blk_alloc Z43.out _) 5).trans rfl⟩ (fun hHeld => ?_)
 clear hK K
 refine Z.nm 92 ?_
 refine last_ (i := 8) (N := some 93) #[true, true, true, true, true, true, true, true, true, false, false, false, false] rfl rfl (by kernel_rfl) (by decide) (fun K hK => ?_)
 refine Kd.R_append_step k46 w0.heap.size (by rfl) (.tmp 90) (.tmp 92) 31 46 (.agg #[(.int .i64 0), (.int .i64 0), (.int .i64 0), (.int .i64 0), (.int .i64 0), (.int .i64 0)]) 48 rfl Tryz.underlying31 info46 rfl (by decide) (by omega) (.slice Ab B.length cb) B (⟨(rd ns 0), (rd ns 1), (rd ns 2), (rd ns 3), (rd ns 4), (rd ns 5)⟩ : S46) [.int .i64 (rd ns 0), .int .i64 (rd ns 1), .int .i64 (rd ns 2), .int .i64 (rd ns 3), .int .i64 (rd ns 4), .int .i64 (rd ns 5)] (fun _ => True) (fun _ => False) rfl rfl ?aP (fun _ hk => hk.elim) ?aF ?aO HB.out ?aS ?aL ?_
 (case aP => exact k46_mkM _ _ _ (⟨(rd ns 0), (rd ns 1), (rd ns 2), (rd ns 3), (rd ns 4), (rd ns 5)⟩ : S46))
 (case aF => exact (fun _ _ => trivial))
 (case aO => exact HH.out)
 (case aS => exact (below_size HB.out))
 (case aL => have := Z5.out; omega)
 intro vN Z61 ho hb hg hat
 obtain ⟨BB, hBB⟩ : ∃ BB : List S46, BB = B ++ [(⟨(rd ns 0), (rd ns 1), (rd ns 2), (rd ns 3), (rd ns 4), (rd ns 5)⟩ : S46)] := ⟨_, rfl⟩
 rw [← hBB] at ho
 have HBB := ra hBB
 clear hBB
 have _ := ra (blk_grown (g := p) (o := .cells #[.slice A L.length c, .string nm, .slice Ab B.length cb] 40 (0, 0)) (bk BKp) hg (Kd.R_ne HH.out BKp.out (by decide)))
 have _ := ra hb
 have _ := ra (Kd.S_mono (Kd.S_after (ok := fun _ => True) (v := .slice Ab B.length cb) (Kd.S_mono HT.out (fun _ hk => ⟨trivial, hk⟩)) hg hat) (fun _ hk => hk.2))
 have _ := ra ho
 clear BKp HB HT HH Z43
 rename_i BKp HB HT HH
 clear ho hb hg hat
 obtain ⟨Ao, co, eo⟩ := Kd.R_slice HH.out
 subst eo
 refine hK.out _ _ ?_
 clear hK K
 refine Z.nm 93 ?_
 refine pu 9 94 (bl 13 1023) ?_
 refine pu 10 95 (bl 13 2047) ?_
 refine pu 11 96 (bl 13 4095) ?_
 refine last_ (i := 12) (N := none) #[true, true, true, true, true, true, true, true, true, true, true, true, true] rfl rfl (by kernel_rfl) (by decide) (fun K hK => ?_)
 have hs_ : Z61.cell? ⟨p, 2, none⟩ = some (.slice Ab B.length cb) := (blk_cell BKp.out 2).trans rfl
 have hfs_ := blk_frozen BKp.out 2
 refine skip_ (w1 := ?_) (by rfl) rfl ?_ ?_
 rotate_left
 ·go_simp
  rfl
 refine hK.out _ _ ?_
 clear hK K
 refine done_ (by kernel_rfl) ?_
 try go_wp2
 go_ret
 rw [← HBB.out]
 exact ⟨re, ⟨.slice A L.length c, .slice Ao BB.length co, bp BKp, Sn.setT HT.out BKp.out (by decide), Sn.setH HH.out BKp.out (by decide), GEp.out⟩, bq⟩
theorem Sn.ia_put (k p : Nat) (L : List S33) (nm : ByteArray) (B : List S46) (line : ByteArray) (ws : List ByteArray) (w0 w : World) (hB : Below w0.heap.size w0 w) (hWG : Lb.WG w0) (hS : St 40 w w0.heap.size p L nm B) (hs : Lb.split.f line (⟨#[32]⟩ : ByteArray) = some ws) (h0 : 0 < ws.length) (hn_tube : (rdOf ByteArray.empty ws 0).toList ≠ [116, 117, 98, 101]) (hn_box : (rdOf ByteArray.empty ws 0).toList ≠ [98, 111, 120]) (hn_drop : (rdOf ByteArray.empty ws 0).toList ≠ [100, 114, 111, 112]) (hn_meet : (rdOf ByteArray.empty ws 0).toList ≠ [109, 101, 101, 116]) (hn_cut : (rdOf ByteArray.empty ws 0).toList ≠ [99, 117, 116]) (hl : line.toList = [112, 117, 116]) (cp : ByteArray × List S46) (hcp : impl_copyTube.f nm B = some cp) (r : ByteArray) (st' : Sx) (hhp : impl_s_happen.f k (L, nm, B) false cp.1 cp.2 = some (r, st')) :
  Calls Tryz.prog 11 #[.pointer (some ⟨p, 0, none⟩), .string line] w fun e w' => e = .returned (.string r) ∧ St 40 w' w0.heap.size p st'.1 st'.2.1 st'.2.2 ∧ Below w0.heap.size w0 w' := by
 obtain ⟨A, c, Ab, cb, BKp, HT, HH, HC, HCB, HLC, HLB, GEp⟩ := Sn.op hS
 have HB := ra hB; have HWG := ra hWG; have HS := ra hs
 clear hB hWG hs
 have fw_tube := beq_eq_false_iff_ne.mpr hn_tube
 have fw_box := beq_eq_false_iff_ne.mpr hn_box
 have fw_drop := beq_eq_false_iff_ne.mpr hn_drop
 have fw_meet := beq_eq_false_iff_ne.mpr hn_meet
 have fw_cut := beq_eq_false_iff_ne.mpr hn_cut
 have fl_put : (line.toList == [112, 117, 116]) = true := by rw [hl]; decide
 have fl_all : (line.toList == [97, 108, 108]) = false := by rw [hl]; decide
 have fl_with : (line.toList == [119, 105, 116, 104]) = false := by rw [hl]; decide
 have fl_free : (line.toList == [102, 114, 101, 101]) = false := by rw [hl]; decide
 have Z0 := ki 0 (ws.length : Int)
 have Z1 : (0 < ws.length) = True := eq_true h0
 have H0 := ra h0
 have HCP := ra hcp; have HHP := ra hhp; clear hcp hhp
 clear hn_tube hn_box hn_drop hn_meet hn_cut hl
 have Z2 := Tryz.underlying40; have Z3 := Tryz.underlying55; have Z4 := Tryz.underlying33
 go_enter Tryz.func11, Tryz.ntmps11
 go_wp2_with (first | ((with_reducible refine gc 10 rfl ?_); refine gm (some 18) Tryz.func10 (Lb.split.calls _ _ _ _ (Lb.wg HWG) HS.out) ?_; rintro e Z5 ⟨Z6, rfl, Z7, hb⟩; obtain ⟨Aw, cw, rfl, hlw, hCw⟩ := Kd.R_reads Z7; refine ⟨_, rfl, ?_⟩; replace BKp := bb (bk BKp) hb; replace HB := bs hb; replace HT := Sn.bT HT hb; replace HH := Sn.bH HH hb; replace HC := Sn.bC HC hb; replace HCB := Sn.bC HCB hb; obtain ⟨adw, ew, Z8⟩ := Kd.at_string hCw 0 (Int.le_refl _) (by have := H0.out; omega); cases ew; replace Z8 := Sn.s0 Z8; have HW := ra hCw; have HLW := ra hlw; clear hb Z7 hCw hlw; obtain ⟨Z9, Z10, Z11, Z12, Z13, Z14⟩ := Sn.zc3 BKp) | ((with_reducible refine gc 31 rfl ?_); refine gm (some 105) Tryz.func31 (impl_copyTube.calls _ _ _ _ _ _ _ (Sn.qC HCB) HLB.out HCP.out) ?_; rintro e Z15 ⟨Z16, rfl, Z17, hb⟩; obtain ⟨Ac, cc, rfl, Z18, hCc⟩ := Kd.R_reads Z17; refine ⟨_, rfl, ?_⟩; have HCC := ra hCc; have HLCC := ra Z18; replace BKp := bb (bk BKp) hb; replace HB := bs hb; replace HT := Sn.bT HT hb; replace HH := Sn.bH HH hb; replace HC := Sn.bC HC hb; replace HCB := Sn.bC HCB hb; clear Z9 Z10 Z11 Z12 Z13 Z14; obtain ⟨Z9, Z10, Z11, Z12, Z13, Z14⟩ := Sn.zc3 BKp; clear hb Z17 hCc Z18 Z8 HW) | ((with_reducible refine gc 30 rfl ?_); refine gy (some 107) Tryz.func30 (impl_s_happen.calls _ _ _ _ _ _ _ _ _ _ _ _ _ _ bq HWG.out (Sn.mk (bk BKp) (Sn.qS HT) (Sn.qR HH) GEp.out) (Sn.qC HCC) HLCC.out HHP.out) ?_; rintro Z19 ⟨hst, hb⟩; have HST := ra hst; have _ := ra hb; clear BKp HB HT HH HC HCB Z9 Z10 Z11 Z12 Z13 Z14; rename_i HB; clear hst hb))
 go_ret
 exact ⟨re, HST.out, bq⟩
theorem Sn.ia_drop (k p : Nat) (L : List S33) (nm : ByteArray) (B : List S46) (line : ByteArray) (ws : List ByteArray) (w0 w : World) (hB : Below w0.heap.size w0 w) (hWG : Lb.WG w0) (hS : St 40 w w0.heap.size p L nm B) (hs : Lb.split.f line (⟨#[32]⟩ : ByteArray) = some ws) (h0 : 0 < ws.length) (hW : (rdOf ByteArray.empty ws 0).toList = [100, 114, 111, 112]) (hlen : ws.length = 2) (hl_put : line.toList ≠ [112, 117, 116]) (hl_all : line.toList ≠ [97, 108, 108]) (hl_with : line.toList ≠ [119, 105, 116, 104]) (hl_free : line.toList ≠ [102, 114, 101, 101]) (r : ByteArray) (st' : Sx) (hhp : impl_s_happen.f k (L, nm, B) true (rdOf ByteArray.empty ws 1) [] = some (r, st')) :
  Calls Tryz.prog 11 #[.pointer (some ⟨p, 0, none⟩), .string line] w fun e w' => e = .returned (.string r) ∧ St 40 w' w0.heap.size p st'.1 st'.2.1 st'.2.2 ∧ Below w0.heap.size w0 w' := by
 obtain ⟨A, c, Ab, cb, BKp, HT, HH, HC, HCB, HLC, HLB, GEp⟩ := Sn.op hS
 have HB := ra hB; have HWG := ra hWG; have HS := ra hs
 clear hB hWG hs
 obtain ⟨fw_tube, fw_box, fw_drop, fw_meet, fw_cut⟩ := fi_drop hW
 have fl_put := beq_eq_false_iff_ne.mpr hl_put
 have fl_all := beq_eq_false_iff_ne.mpr hl_all
 have fl_with := beq_eq_false_iff_ne.mpr hl_with
 have fl_free := beq_eq_false_iff_ne.mpr hl_free
 have fn : ((ws.length : Int) == 2) = true := beq_iff_eq.mpr (by omega)
 have Z0 := ki 0 (ws.length : Int)
 have Z1 : (0 < ws.length) = True := eq_true h0
 have H0 := ra h0
 have HN := ra hlen
 have Z2 := ki 1 (ws.length : Int)
 have HHP := ra hhp; clear hhp
 clear hW hlen hl_put hl_all hl_with hl_free
 have Z3 := Tryz.underlying40; have Z4 := Tryz.underlying55; have Z5 := Tryz.underlying33
 go_enter Tryz.func11, Tryz.ntmps11
 go_wp2_with (first | ((with_reducible refine gc 10 rfl ?_); refine gm (some 18) Tryz.func10 (Lb.split.calls _ _ _ _ (Lb.wg HWG) HS.out) ?_; rintro e Z6 ⟨Z7, rfl, Z8, hb⟩; obtain ⟨Aw, cw, rfl, hlw, hCw⟩ := Kd.R_reads Z8; refine ⟨_, rfl, ?_⟩; replace BKp := bb (bk BKp) hb; replace HB := bs hb; replace HT := Sn.bT HT hb; replace HH := Sn.bH HH hb; replace HC := Sn.bC HC hb; replace HCB := Sn.bC HCB hb; obtain ⟨adw, ew, Z9⟩ := Kd.at_string hCw 0 (Int.le_refl _) (by have := H0.out; omega); cases ew; replace Z9 := Sn.s0 Z9; obtain ⟨_, ew, Z10⟩ := Kd.at_string hCw 1 (by omega) (by have := HN.out; omega); cases ew; replace Z10 := Sn.s1 (i := 0) Z10; have HW := ra hCw; have HLW := ra hlw; clear hb Z8 hCw hlw; obtain ⟨Z11, Z12, Z13, Z14, Z15, Z16⟩ := Sn.zc3 BKp) | ((with_reducible refine gc 30 rfl ?_); refine gy (some 124) Tryz.func30 (impl_s_happen.calls _ _ _ _ _ _ _ _ _ _ _ _ _ _ bq HWG.out (Sn.mk (bk BKp) (Sn.qS HT) (Sn.qR HH) GEp.out) (Kd.C_nil _ _) (Nat.le_refl _) HHP.out) ?_; rintro Z17 ⟨hst, hb⟩; have HST := ra hst; have _ := ra hb; clear BKp HB HT HH HC HCB Z11 Z12 Z13 Z14 Z15 Z16; rename_i HB; clear hst hb))
 go_ret
 exact ⟨re, HST.out, bq⟩
end Go.Proofs.YtjelgpmhbaiipaaGreatDoor.PA
end
