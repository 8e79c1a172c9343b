/- Walks of the session's methods. No condition beside what the Lean functions say. -/
import Derived.Test.YtjelgpmhbaiipaaGreatDoorFZCv2
import Derived.Test.YtjelgpmhbaiipaaGreatDoorFS8
import Derived.Test.YtjelgpmhbaiipaaGreatDoorFG23
section
namespace Go.Proofs.YtjelgpmhbaiipaaGreatDoor.PA
open Go.RowKit Go.Proofs.YtjelgpmhbaiipaaGreatDoorW.PrintWords Go.Proofs.YtjelgpmhbaiipaaGreatDoorW.PrintLast Go.Proofs.YtjelgpmhbaiipaaGreatDoorW.PrintMore Go.Proofs.YtjelgpmhbaiipaaGreatDoor.Z
attribute [local go_sem] max2_int min2_int max_two min_two max_three min_three max_four min_four
set_option linter.unusedVariables false
set_option maxHeartbeats 8000000
set_option maxRecDepth 100000
set_option linter.unusedSimpArgs false
def impl_s_happen.f (k : Nat) (st : Sx) (d : Bool) (en : ByteArray) (Be : List S46) : Option (ByteArray × Sx) :=
 (impl_ProbeHappen.f k st.1 d en Be).bind fun pr => (Lb.itoa.f pr.2).bind fun t => if 5 + t.size ≤ 9223372036854775807 then some ((⟨#[99, 111, 100, 101, 32]⟩ : ByteArray) ++ t, (if pr.2 = 0 then pr.1 else st.1, st.2)) else none
theorem impl_s_happen.calls (k p : Nat) (L : List S33) (nm : ByteArray) (B : List S46) (d : Bool) (en : ByteArray) (Ae : Option Addr) (ce : Nat) (Be : List S46) (r : ByteArray) (st' : Sx) (w0 w : World) (hB : Below w0.heap.size w0 w) (hWG : Lb.WG w0) (hS : St 40 w w0.heap.size p L nm B) (hre : Kd.C k46 w Ae Be.length Be) (hce : Be.length ≤ ce) (h : impl_s_happen.f k (L, nm, B) d en Be = some (r, st')) :
  Calls Tryz.prog 30 #[.pointer (some ⟨p, 0, none⟩), .agg #[.bool d, .string en, .slice Ae Be.length ce]] w fun e w' => e = .returned (.string r) ∧ St 40 w' w0.heap.size p st'.1 st'.2.1 st'.2.2 ∧ Below w0.heap.size w0 w' := by
 obtain ⟨vT, vB, hBK, hT, hH, hp⟩ := hS
 obtain ⟨A, c, rfl, hlc, hC⟩ := Kd.S_reads hT
 have BKp := ra hBK; have HT := ra hT; have HH := ra hH; have HC := ra hC; have HRE := ra hre; have HLC := ra hlc; have HCE := ra hce; have HB := ra hB; have HWG := ra hWG; have GEp := ra hp
 clear hBK hT hH hC hre hlc hB hWG hp
 unfold impl_s_happen.f at h
 obtain ⟨pr, Z0, h⟩ := bo h
 obtain ⟨nx, code⟩ := pr
 obtain ⟨t, Z1, h⟩ := bo h
 by_cases Z2 : 5 + t.size ≤ 9223372036854775807
 rotate_left
 ·rw [if_neg Z2] at h; cases h
 rw [if_pos Z2] at h
 have Z3 := eq_true Z2
 have Z4 : (9223372036854775807 < 5 + t.size) = False := eq_false (Nat.not_lt.2 Z2)
 clear Z2
 simp only [Option.some.injEq, Prod.mk.injEq] at h
 obtain ⟨rfl, rfl⟩ := h
 by_cases Z5 : code = 0
 ·subst Z5
  simp only [if_true]
  have Z6 := Tryz.underlying40; have Z7 := Tryz.underlying55; have Z8 := Tryz.underlying33
  go_enter Tryz.func30, Tryz.ntmps30
  try go_wp2_with (first | ((with_reducible refine gd 3 rfl ?_); refine be 3 #[.bool d, .string en, .slice Ae Be.length ce] 55 ?_; intro gbE hg Z9 hbox hb; have BKE := ra hbox; have GEE := bz (w0 := w0) hg; replace BKp := bb (bk BKp) hb; replace HB := bs hb; replace HT := Sn.sT HT hb; replace HH := Sn.sH HH hb; replace HC := Sn.sC HC hb; replace HRE := Sn.sC HRE hb; clear hb hbox hg))
  have _ := ra (blk_drew BKp.out); have _ := ra (below_drew1 HB.out); have _ := ra (blk_drew BKE.out); have _ := Sn.drT HT; have _ := Sn.drH HH; have _ := Sn.drC HC; have _ := Sn.drC HRE
  clear BKp HB BKE HT HH HC HRE
  rename_i BKp HB BKE HT HH HC HRE
  refine start_ (n := 11) (S := fun w' => w'.cell? ⟨p, 0, none⟩ = some (.slice A L.length c) ∧ w'.cell? ⟨gbE, 0, none⟩ = some (.bool d) ∧ w'.cell? ⟨gbE, 1, none⟩ = some (.string en) ∧ w'.cell? ⟨gbE, 2, none⟩ = some (.slice Ae Be.length ce)) (ds := []) (bl 11 0) (by kernel_rfl) rfl rfl ⟨(blk_cell BKp.out 0).trans rfl, (blk_cell BKE.out 0).trans rfl, (blk_cell BKE.out 1).trans rfl, (blk_cell BKE.out 2).trans rfl⟩ (fun hHeld => ?_)
  generalize Z9.drew = wd at BKp HB BKE HT HH HC HRE hHeld ⊢
  refine pu 0 8 (bl 11 1) ?_
  refine pu 1 9 (bl 11 3) ?_
  refine pu 2 10 (bl 11 7) ?_
  refine tk 3 11 (bl 11 15) ?_ hHeld
  refine tk 4 12 (bl 11 31) ?_ hHeld
  refine oe 5 13 (bl 11 63) (fun K hK => ?_)
  refine goes_ Tryz.func58 (by kernel_rfl) rfl #[.slice A L.length c, .agg #[.bool d, .string en, .slice Ae Be.length ce]] (by rfl) rfl rfl (by simp only [List.map_toArray, List.map_cons, List.map_nil]; rfl) ?_
  with_reducible refine (impl_ProbeHappen.calls k _ _ L d en _ _ Be nx 0 _ HC.out HLC.out HRE.out HCE.out Z0.out).mono ?_
  rintro e Z10 ⟨Z11, rfl, Z12, hb⟩
  refine ⟨_, rfl, ?_⟩
  have _ := ra (Kd.S_mono (Kd.S_lower (Kd.S_new' Z12 (fun k_ hk_ => Kd.R_lt HH.out k_ hk_)) (below_size HB.out)) (fun _ hk_ => hk_.2))
  have _ := bb (bk BKp) hb
  have _ := bs hb
  have _ := bb (bk BKE) hb
  have _ := Sn.sT HT hb
  have _ := Sn.sH HH hb
  clear BKp HB BKE HT HH HC HRE Z12
  rename_i HN BKp HB BKE HT HH
  refine hK.out _ _ ⟨(blk_cell BKp.out 0).trans rfl, (blk_cell BKE.out 0).trans rfl, (blk_cell BKE.out 1).trans rfl, (blk_cell BKE.out 2).trans rfl⟩ (fun hHeld => ?_)
  clear hK K
  refine Z.nm 13 ?_
  refine pu 6 7 (bl 11 127) ?_
  refine pu 7 14 (bl 11 255) ?_
  refine pu 8 15 (bl 11 511) ?_
  refine pu 9 5 (bl 11 1023) ?_
  refine pu 10 6 (bl 11 2047) ?_
  refine done_ (by kernel_rfl) ?_
  obtain ⟨Av, cv, ev⟩ := Kd.S_slice HN.out
  subst ev
  have Z13 : Z10.cell? ⟨p, 0, none⟩ = some (.slice A L.length c) := (blk_cell BKp.out 0).trans rfl
  have Z14 := blk_frozen BKp.out 0
  go_wp2_with (first | ((with_reducible refine gc 41 rfl ?_); refine gy (some 23) Tryz.func41 (Lb.itoa.calls _ _ _ (Lb.wg HWG) Z1.out) ?_; rintro Z15 hb; replace HB := bs hb; replace HN := ra (Kd.S_below (Sn.setT (j := 0) (u := .slice Av nx.length cv) HN.out BKp.out (by decide)) hb); replace HH := ra (Kd.R_below (Sn.setH (j := 0) (u := .slice Av nx.length cv) HH.out BKp.out (by decide)) hb); replace BKp := bb (bp (cs2 := #[.slice Av nx.length cv, .string nm, vB]) BKp) hb; clear hb))
  go_ret
  exact ⟨re, ⟨_, _, bk BKp, Sn.qS HN, Sn.qR HH, GEp.out⟩, bq⟩
 ·have Z6 : (code == 0) = false := beq_eq_false_iff_ne.mpr Z5
  simp only [if_neg Z5]
  clear Z5
  have Z7 := Tryz.underlying40; have Z8 := Tryz.underlying55; have Z9 := Tryz.underlying33
  go_enter Tryz.func30, Tryz.ntmps30
  try go_wp2_with (first | ((with_reducible refine gd 3 rfl ?_); refine be 3 #[.bool d, .string en, .slice Ae Be.length ce] 55 ?_; intro gbE hg Z10 hbox hb; have BKE := ra hbox; have GEE := bz (w0 := w0) hg; replace BKp := bb (bk BKp) hb; replace HB := bs hb; replace HT := Sn.sT HT hb; replace HH := Sn.sH HH hb; replace HC := Sn.sC HC hb; replace HRE := Sn.sC HRE hb; clear hb hbox hg))
  have _ := ra (blk_drew BKp.out); have _ := ra (below_drew1 HB.out); have _ := ra (blk_drew BKE.out); have _ := Sn.drT HT; have _ := Sn.drH HH; have _ := Sn.drC HC; have _ := Sn.drC HRE
  clear BKp HB BKE HT HH HC HRE
  rename_i BKp HB BKE HT HH HC HRE
  refine start_ (n := 11) (S := fun w' => w'.cell? ⟨p, 0, none⟩ = some (.slice A L.length c) ∧ w'.cell? ⟨gbE, 0, none⟩ = some (.bool d) ∧ w'.cell? ⟨gbE, 1, none⟩ = some (.string en) ∧ w'.cell? ⟨gbE, 2, none⟩ = some (.slice Ae Be.length ce)) (ds := []) (bl 11 0) (by kernel_rfl) rfl rfl ⟨(blk_cell BKp.out 0).trans rfl, (blk_cell BKE.out 0).trans rfl, (blk_cell BKE.out 1).trans rfl, (blk_cell BKE.out 2).trans rfl⟩ (fun hHeld => ?_)
  generalize Z10.drew = wd at BKp HB BKE HT HH HC HRE hHeld ⊢
  refine pu 0 8 (bl 11 1) ?_
  refine pu 1 9 (bl 11 3) ?_
  refine pu 2 10 (bl 11 7) ?_
  refine tk 3 11 (bl 11 15) ?_ hHeld
  refine tk 4 12 (bl 11 31) ?_ hHeld
  refine oe 5 13 (bl 11 63) (fun K hK => ?_)
  refine goes_ Tryz.func58 (by kernel_rfl) rfl #[.slice A L.length c, .agg #[.bool d, .string en, .slice Ae Be.length ce]] (by rfl) rfl rfl (by simp only [List.map_toArray, List.map_cons, List.map_nil]; rfl) ?_
  with_reducible refine (impl_ProbeHappen.calls k _ _ L d en _ _ Be nx code _ HC.out HLC.out HRE.out HCE.out Z0.out).mono ?_
  rintro e Z11 ⟨Z12, rfl, Z13, hb⟩
  refine ⟨_, rfl, ?_⟩
  have _ := ra (Kd.S_mono (Kd.S_lower (Kd.S_new' Z13 (fun k_ hk_ => Kd.R_lt HH.out k_ hk_)) (below_size HB.out)) (fun _ hk_ => hk_.2))
  have _ := bb (bk BKp) hb
  have _ := bs hb
  have _ := bb (bk BKE) hb
  have _ := Sn.sT HT hb
  have _ := Sn.sH HH hb
  clear BKp HB BKE HT HH HC HRE Z13
  rename_i HN BKp HB BKE HT HH
  refine hK.out _ _ ⟨(blk_cell BKp.out 0).trans rfl, (blk_cell BKE.out 0).trans rfl, (blk_cell BKE.out 1).trans rfl, (blk_cell BKE.out 2).trans rfl⟩ (fun hHeld => ?_)
  clear hK K
  refine Z.nm 13 ?_
  refine pu 6 7 (bl 11 127) ?_
  refine pu 7 14 (bl 11 255) ?_
  refine pu 8 15 (bl 11 511) ?_
  refine pu 9 5 (bl 11 1023) ?_
  refine pu 10 6 (bl 11 2047) ?_
  refine done_ (by kernel_rfl) ?_
  obtain ⟨Av, cv, ev⟩ := Kd.S_slice HN.out
  subst ev
  have Z14 : Z11.cell? ⟨p, 0, none⟩ = some (.slice A L.length c) := (blk_cell BKp.out 0).trans rfl
  have Z15 := blk_frozen BKp.out 0
  go_wp2_with (first | ((with_reducible refine gc 41 rfl ?_); refine gy (some 23) Tryz.func41 (Lb.itoa.calls _ _ _ (Lb.wg HWG) Z1.out) ?_; rintro Z16 hb; replace BKp := bb (bk BKp) hb; replace HB := bs hb; replace HT := ra (Kd.S_below HT.out hb); replace HH := ra (Kd.R_below HH.out hb); clear hb))
  go_ret
  exact ⟨re, ⟨_, _, bk BKp, Sn.qS HT, Sn.qR HH, GEp.out⟩, bq⟩
def impl_s_tube.f (L : List S33) (n : ByteArray) : ByteArray × List S46 × Bool := ((L.find? fun t => decide (t.f0.toList = n.toList)).map fun t => (t.f0, t.f1, true)).getD (⟨#[]⟩, [], false)
theorem Sn.rd_at {L : List S33} {i : Nat} (h : i < L.length) : rd_T33 L (i : Int) = L[i] := by
 unfold rd_T33
 simp [h]
theorem Sn.find_hit {L : List S33} {n : ByteArray} {i : Nat} (h : i < L.length) (hn : ∀ j t, j < i → L[j]? = some t → t.f0.toList ≠ n.toList) (he : (rd_T33 L (i : Int)).f0.toList = n.toList) : impl_s_tube.f L n = ((rd_T33 L (i : Int)).f0, (rd_T33 L (i : Int)).f1, true) := by
 rw [Sn.rd_at h] at he ⊢
 have : (L.find? fun t => decide (t.f0.toList = n.toList)) = some L[i] := by
  refine List.find?_eq_some_iff_getElem.2 ⟨by simpa using he, i, h, rfl, fun j hj => ?_⟩
  have := hn j L[j] hj (List.getElem?_eq_getElem (by omega))
  simpa using this
 unfold impl_s_tube.f
 rw [this]
 rfl
theorem Sn.find_none {L : List S33} {n : ByteArray} (hn : ∀ j t, j < L.length → L[j]? = some t → t.f0.toList ≠ n.toList) : impl_s_tube.f L n = (⟨#[]⟩, [], false) := by
 have : (L.find? fun t => decide (t.f0.toList = n.toList)) = none := by
  refine List.find?_eq_none.2 fun t ht => ?_
  obtain ⟨j, hj, e⟩ := List.getElem_of_mem ht
  have := hn j t hj (by rw [List.getElem?_eq_getElem hj, e])
  simpa using this
 unfold impl_s_tube.f
 rw [this]
 rfl
theorem impl_s_tube.calls (p : Nat) (L : List S33) (nm : ByteArray) (B : List S46) (n : ByteArray) (base : Nat) (w : World) (hS : St 40 w base p L nm B) :
  Calls Tryz.prog 36 #[.pointer (some ⟨p, 0, none⟩), .string n] w fun e w' => ∃ A c, e = .returned (.tuple #[.agg #[.string (impl_s_tube.f L n).1, .slice A (impl_s_tube.f L n).2.1.length c], .bool (impl_s_tube.f L n).2.2]) ∧ Kd.C k46 w' A (impl_s_tube.f L n).2.1.length (impl_s_tube.f L n).2.1 ∧ (impl_s_tube.f L n).2.1.length ≤ c ∧ Below w.heap.size w w' := by
 obtain ⟨vT, vB, hBK, hT, hH, hp⟩ := hS
 obtain ⟨A, c, rfl, hlc, hC⟩ := Kd.S_reads hT
 have hlen := Kd.C_max hC
 have BKp := ra hBK; have HR := ra hC; have HB := ra (Below.refl w.heap.size w)
 clear hBK hT hH hp hC
 have Z0 := Tryz.underlying40; have Z1 := Tryz.underlying33
 go_enter Tryz.func36, Tryz.ntmps36
 go_wp2_with (first | ((with_reducible refine gd 4 rfl ?_); refine be 4 #[.string (⟨#[]⟩ : ByteArray), .slice none 0 0] 33 ?_; intro Z2 hg Z3 hbox hb; have Z4 := ra hbox; have Z5 := bz (w0 := w) hg; replace BKp := bb (bk BKp) hb; replace HB := bs hb; clear hb hbox hg; obtain ⟨Z6, Z7⟩ : Z3.cell? ⟨p, 0, none⟩ = some (.slice A L.length c) ∧ Z3.frozen? ⟨p, 0, none⟩ = false := ⟨(blk_cell BKp.out 0).trans rfl, blk_frozen BKp.out 0⟩))
 go_loopg [13] L.length (fun kq v13 w' => ∃ i : Nat, v13 = .int .i64 (i : Int) ∧ Aside0 (i + kq = L.length) ∧ Aside0 (∀ j t, j < i → L[j]? = some t → t.f0.toList ≠ n.toList) ∧ Aside0 (w'.heap[Z2]? = some (.cells #[.string (⟨#[]⟩ : ByteArray), .slice none 0 0] 33 (0, 0))) ∧ Aside0 (Below w.heap.size w w'))
 case atStart => exact ⟨0, rfl, ⟨by simp⟩, ⟨fun j t hj => absurd hj (by omega)⟩, ⟨bk Z4⟩, ⟨bq⟩⟩
 case round =>
  clear Z6 Z7
  obtain ⟨i, rfl, HI, HN, Z4, HB⟩ := hrel
  rcases Nat.lt_or_ge i L.length with hi | hi
  ·have Z8 : decide ((i : Int) < (L.length : Int)) = true := decide_eq_true (by omega)
   have Z9 : decide (0 ≤ (i : Int)) = true := decide_eq_true (by omega)
   obtain ⟨ad, Z10, Z11, Z12, Z13, Z14, Z15, Z16⟩ := at_T33 HR.out (i : Int) (by omega) (by omega)
   cases Z12
   replace Z13 := hc HB Z13
   replace Z14 := hc HB Z14
   simp only [Int.toNat_natCast] at Z13 Z14
   have Z17 := ra Z16; have Z18 := ra Z15
   clear Z16 Z15
   have Z19 : (0 ≤ (i : Int)) = True := eq_true (by omega)
   have Z20 : ((i : Int) < (L.length : Int)) = True := eq_true (by omega)
   by_cases hn : (rd_T33 L (i : Int)).f0.toList = n.toList
   ·have hfe := Sn.find_hit hi HN.out hn
    have Z21 : (((rd_T33 L (i : Int)).f0).toList == n.toList) = true := beq_iff_eq.mpr hn
    have HFE := ra hfe
    have HI' := ra hi
    clear hn hfe hi
    go_wp2_with (first | ((with_reducible refine gd 7 rfl ?_); refine be 7 #[.string (⟨#[]⟩ : ByteArray), .slice none 0 0] 33 ?_; intro Z22 hg Z23 hbox hb; have Z24 := ra hbox; have Z25 := bz (w0 := w) hg; have Z26 := bn hg (bk Z4); have Z27 := bm hg (bk Z4); replace Z4 := bb (bk Z4) hb; replace HB := bs hb; clear hb hbox hg; have hnb := Z26.out; have hnc := Z27.out; obtain ⟨Z28, Z29, Z30, Z31⟩ := zc2 Z24; obtain ⟨Z32, Z33, Z34, Z35⟩ := zc2 Z4))
    refine bodyPost_ret (results_ct rfl _ _ Z2 33 #[.string ((rd_T33 L (i : Int)).f0), .slice Z10 ((rd_T33 L (i : Int)).f1).length Z11] (0, 0) _ rfl (bp Z4) Tryz.underlying33 rfl (by kernel_rfl)) rfl ?_
    rw [HFE.out]
    exact ⟨Z10, Z11, rfl, Kd.C_below Z17.out bq, Z18.out, bq⟩
   ·have Z21 : (((rd_T33 L (i : Int)).f0).toList == n.toList) = false := beq_eq_false_iff_ne.mpr hn
    have hno : ∀ j t, j < i + 1 → L[j]? = some t → t.f0.toList ≠ n.toList := by
     intro j t hj ht
     rcases Nat.lt_or_ge j i with h | h
     ·exact HN.out j t h ht
     ·obtain rfl : j = i := by omega
      rw [Sn.rd_at hi] at hn
      rw [List.getElem?_eq_getElem hi] at ht
      exact Option.some.inj ht ▸ hn
    have HNO := ra hno
    have HI' := ra hi
    clear hn hno hi
    go_wp2_with (first | ((with_reducible refine gd 7 rfl ?_); refine be 7 #[.string (⟨#[]⟩ : ByteArray), .slice none 0 0] 33 ?_; intro Z22 hg Z23 hbox hb; have Z24 := ra hbox; have Z25 := bz (w0 := w) hg; have Z26 := bn hg (bk Z4); have Z27 := bm hg (bk Z4); replace Z4 := bb (bk Z4) hb; replace HB := bs hb; clear hb hbox hg; have hnb := Z26.out; have hnc := Z27.out; obtain ⟨Z28, Z29, Z30, Z31⟩ := zc2 Z24))
    go_roundg (gk - 1)
    case measure => have := HI.out; have := HI'.out; omega
    case rel => exact ⟨i + 1, by (have Z32 : wrap64 ((i : Int) + 1) = ((i + 1 : Nat) : Int) := by (have := HI'.out; unfold wrap64; omega)); first | exact Z32 ▸ rfl | (simp [Z32]; done) | (rw [Z32]), ⟨by have := HI.out; have := HI'.out; omega⟩, HNO, ⟨bk Z4⟩, ⟨bq⟩⟩
  ·have Z8 : decide ((i : Int) < (L.length : Int)) = false := decide_eq_false (by omega)
   have hiL : i = L.length := by have := HI.out; omega
   have hfe : impl_s_tube.f L n = (⟨#[]⟩, [], false) := Sn.find_none (fun j t hj => HN.out j t (by omega))
   obtain ⟨Z9, Z10, Z11, Z12⟩ := zc2 Z4
   have HFE := ra hfe
   clear hfe
   go_wp2
   refine bodyPost_ret (results_ct rfl _ _ Z2 33 #[.string (⟨#[]⟩ : ByteArray), .slice none 0 0] (0, 0) _ rfl (bp Z4) Tryz.underlying33 rfl (by kernel_rfl)) rfl ?_
   rw [HFE.out]
   exact ⟨none, 0, rfl, Kd.C_nil _ _, Nat.le_refl _, bq⟩
theorem Sn.ia_tube (k p : Nat) (L : List S33) (nm : ByteArray) (B : List S46) (line : ByteArray) (ws : List ByteArray) (w0 w : World) (hB : Below w0.heap.size w0 w) (hWG : Lb.WG w0) (hS : St 40 w w0.heap.size p L nm B) (hs : Lb.split.f line (⟨#[32]⟩ : ByteArray) = some ws) (h0 : 0 < ws.length) (hW : (rdOf ByteArray.empty ws 0).toList = [116, 117, 98, 101]) (hlen : ws.length = 2) (hl_put : line.toList ≠ [112, 117, 116]) (hl_all : line.toList ≠ [97, 108, 108]) (hl_with : line.toList ≠ [119, 105, 116, 104]) (hl_free : line.toList ≠ [102, 114, 101, 101]) :
  Calls Tryz.prog 11 #[.pointer (some ⟨p, 0, none⟩), .string line] w fun e w' => e = .returned (.string (⟨#[111, 107]⟩ : ByteArray)) ∧ St 40 w' w0.heap.size p L (rdOf ByteArray.empty ws 1) [] ∧ Below w0.heap.size w0 w' := by
 obtain ⟨A, c, Ab, cb, BKp, HT, HH, HC, HCB, HLC, HLB, GEp⟩ := Sn.op hS
 have HB := ra hB; have HWG := ra hWG; have HS := ra hs
 clear hB hWG hs
 obtain ⟨fw_tube, fw_box, fw_drop, fw_meet, fw_cut⟩ := fi_tube hW
 have fl_put := beq_eq_false_iff_ne.mpr hl_put
 have fl_all := beq_eq_false_iff_ne.mpr hl_all
 have fl_with := beq_eq_false_iff_ne.mpr hl_with
 have fl_free := beq_eq_false_iff_ne.mpr hl_free
 have fn : ((ws.length : Int) == 2) = true := beq_iff_eq.mpr (by omega)
 have Z0 := ki 0 (ws.length : Int)
 have Z1 : (0 < ws.length) = True := eq_true h0
 have H0 := ra h0
 have HN := ra hlen
 have Z2 := ki 1 (ws.length : Int)
 clear hW hlen hl_put hl_all hl_with hl_free
 have Z3 := Tryz.underlying40; have Z4 := Tryz.underlying55; have Z5 := Tryz.underlying33
 go_enter Tryz.func11, Tryz.ntmps11
 go_wp2_with (first | ((with_reducible refine gc 10 rfl ?_); refine gm (some 18) Tryz.func10 (Lb.split.calls _ _ _ _ (Lb.wg HWG) HS.out) ?_; rintro e Z6 ⟨Z7, rfl, Z8, hb⟩; obtain ⟨Aw, cw, rfl, hlw, hCw⟩ := Kd.R_reads Z8; refine ⟨_, rfl, ?_⟩; replace BKp := bb (bk BKp) hb; replace HB := bs hb; replace HT := Sn.bT HT hb; replace HH := Sn.bH HH hb; replace HC := Sn.bC HC hb; replace HCB := Sn.bC HCB hb; obtain ⟨adw, ew, Z9⟩ := Kd.at_string hCw 0 (Int.le_refl _) (by have := H0.out; omega); cases ew; replace Z9 := Sn.s0 Z9; obtain ⟨_, ew, Z10⟩ := Kd.at_string hCw 1 (by omega) (by have := HN.out; omega); cases ew; replace Z10 := Sn.s1 (i := 0) Z10; have HW := ra hCw; have HLW := ra hlw; clear hb Z8 hCw hlw; obtain ⟨Z11, Z12, Z13, Z14, Z15, Z16⟩ := Sn.zc3 BKp))
 go_ret
 exact ⟨re, ⟨.slice A L.length c, .slice none 0 0, bp BKp, Kd.S_mono (Sn.setT (Sn.setT HT.out BKp.out (by decide)) (bp (cs2 := #[.slice A L.length c, .string (rdOf ByteArray.empty ws 1), .slice Ab B.length cb]) BKp) (by decide)) (fun k_ _ => by simp [Value.ownBlock]), Kd.R_nil _ _ _ _ _, GEp.out⟩, bq⟩
theorem Sn.ia_tubeBad (k p : Nat) (L : List S33) (nm : ByteArray) (B : List S46) (line : ByteArray) (ws : List ByteArray) (w0 w : World) (hB : Below w0.heap.size w0 w) (hWG : Lb.WG w0) (hS : St 40 w w0.heap.size p L nm B) (hs : Lb.split.f line (⟨#[32]⟩ : ByteArray) = some ws) (h0 : 0 < ws.length) (hW : (rdOf ByteArray.empty ws 0).toList = [116, 117, 98, 101]) (hlen : ws.length ≠ 2) (hl_put : line.toList ≠ [112, 117, 116]) (hl_all : line.toList ≠ [97, 108, 108]) (hl_with : line.toList ≠ [119, 105, 116, 104]) (hl_free : line.toList ≠ [102, 114, 101, 101]) :
  Calls Tryz.prog 11 #[.pointer (some ⟨p, 0, none⟩), .string line] w fun e w' => e = .returned (.string (⟨#[98, 97, 100]⟩ : ByteArray)) ∧ St 40 w' w0.heap.size p L nm B ∧ Below w0.heap.size w0 w' := by
 obtain ⟨A, c, Ab, cb, BKp, HT, HH, HC, HCB, HLC, HLB, GEp⟩ := Sn.op hS
 have HB := ra hB; have HWG := ra hWG; have HS := ra hs
 clear hB hWG hs
 obtain ⟨fw_tube, fw_box, fw_drop, fw_meet, fw_cut⟩ := fi_tube hW
 have fl_put := beq_eq_false_iff_ne.mpr hl_put
 have fl_all := beq_eq_false_iff_ne.mpr hl_all
 have fl_with := beq_eq_false_iff_ne.mpr hl_with
 have fl_free := beq_eq_false_iff_ne.mpr hl_free
 have fn : ((ws.length : Int) == 2) = false := beq_eq_false_iff_ne.mpr (by omega)
 have Z0 := ki 0 (ws.length : Int)
 have Z1 : (0 < ws.length) = True := eq_true h0
 have H0 := ra h0
 clear hW hlen hl_put hl_all hl_with hl_free
 have Z2 := Tryz.underlying40; have Z3 := Tryz.underlying55; have Z4 := Tryz.underlying33
 go_enter Tryz.func11, Tryz.ntmps11
 go_wp2_with (first | ((with_reducible refine gc 10 rfl ?_); refine gm (some 18) Tryz.func10 (Lb.split.calls _ _ _ _ (Lb.wg HWG) HS.out) ?_; rintro e Z5 ⟨Z6, rfl, Z7, hb⟩; obtain ⟨Aw, cw, rfl, hlw, hCw⟩ := Kd.R_reads Z7; refine ⟨_, rfl, ?_⟩; replace BKp := bb (bk BKp) hb; replace HB := bs hb; replace HT := Sn.bT HT hb; replace HH := Sn.bH HH hb; replace HC := Sn.bC HC hb; replace HCB := Sn.bC HCB hb; obtain ⟨adw, ew, Z8⟩ := Kd.at_string hCw 0 (Int.le_refl _) (by have := H0.out; omega); cases ew; replace Z8 := Sn.s0 Z8; have HW := ra hCw; have HLW := ra hlw; clear hb Z7 hCw hlw; obtain ⟨Z9, Z10, Z11, Z12, Z13, Z14⟩ := Sn.zc3 BKp))
 go_ret
 exact ⟨re, ⟨_, _, bk BKp, Sn.qS HT, Sn.qR HH, GEp.out⟩, bq⟩
theorem Sn.ia_boxBad (k p : Nat) (L : List S33) (nm : ByteArray) (B : List S46) (line : ByteArray) (ws : List ByteArray) (w0 w : World) (hB : Below w0.heap.size w0 w) (hWG : Lb.WG w0) (hS : St 40 w w0.heap.size p L nm B) (hs : Lb.split.f line (⟨#[32]⟩ : ByteArray) = some ws) (h0 : 0 < ws.length) (hW : (rdOf ByteArray.empty ws 0).toList = [98, 111, 120]) (hlen : ws.length ≠ 7) (hl_put : line.toList ≠ [112, 117, 116]) (hl_all : line.toList ≠ [97, 108, 108]) (hl_with : line.toList ≠ [119, 105, 116, 104]) (hl_free : line.toList ≠ [102, 114, 101, 101]) :
  Calls Tryz.prog 11 #[.pointer (some ⟨p, 0, none⟩), .string line] w fun e w' => e = .returned (.string (⟨#[98, 97, 100]⟩ : ByteArray)) ∧ St 40 w' w0.heap.size p L nm B ∧ Below w0.heap.size w0 w' := by
 obtain ⟨A, c, Ab, cb, BKp, HT, HH, HC, HCB, HLC, HLB, GEp⟩ := Sn.op hS
 have HB := ra hB; have HWG := ra hWG; have HS := ra hs
 clear hB hWG hs
 obtain ⟨fw_tube, fw_box, fw_drop, fw_meet, fw_cut⟩ := fi_box hW
 have fl_put := beq_eq_false_iff_ne.mpr hl_put
 have fl_all := beq_eq_false_iff_ne.mpr hl_all
 have fl_with := beq_eq_false_iff_ne.mpr hl_with
 have fl_free := beq_eq_false_iff_ne.mpr hl_free
 have fn : ((ws.length : Int) == 7) = false := beq_eq_false_iff_ne.mpr (by omega)
 have Z0 := ki 0 (ws.length : Int)
 have Z1 : (0 < ws.length) = True := eq_true h0
 have H0 := ra h0
 clear hW hlen hl_put hl_all hl_with hl_free
 have Z2 := Tryz.underlying40; have Z3 := Tryz.underlying55; have Z4 := Tryz.underlying33
 go_enter Tryz.func11, Tryz.ntmps11
 go_wp2_with (first | ((with_reducible refine gc 10 rfl ?_); refine gm (some 18) Tryz.func10 (Lb.split.calls _ _ _ _ (Lb.wg HWG) HS.out) ?_; rintro e Z5 ⟨Z6, rfl, Z7, hb⟩; obtain ⟨Aw, cw, rfl, hlw, hCw⟩ := Kd.R_reads Z7; refine ⟨_, rfl, ?_⟩; replace BKp := bb (bk BKp) hb; replace HB := bs hb; replace HT := Sn.bT HT hb; replace HH := Sn.bH HH hb; replace HC := Sn.bC HC hb; replace HCB := Sn.bC HCB hb; obtain ⟨adw, ew, Z8⟩ := Kd.at_string hCw 0 (Int.le_refl _) (by have := H0.out; omega); cases ew; replace Z8 := Sn.s0 Z8; have HW := ra hCw; have HLW := ra hlw; clear hb Z7 hCw hlw; obtain ⟨Z9, Z10, Z11, Z12, Z13, Z14⟩ := Sn.zc3 BKp))
 go_ret
 exact ⟨re, ⟨_, _, bk BKp, Sn.qS HT, Sn.qR HH, GEp.out⟩, bq⟩
theorem Sn.ia_dropBad (k p : Nat) (L : List S33) (nm : ByteArray) (B : List S46) (line : ByteArray) (ws : List ByteArray) (w0 w : World) (hB : Below w0.heap.size w0 w) (hWG : Lb.WG w0) (hS : St 40 w w0.heap.size p L nm B) (hs : Lb.split.f line (⟨#[32]⟩ : ByteArray) = some ws) (h0 : 0 < ws.length) (hW : (rdOf ByteArray.empty ws 0).toList = [100, 114, 111, 112]) (hlen : ws.length ≠ 2) (hl_put : line.toList ≠ [112, 117, 116]) (hl_all : line.toList ≠ [97, 108, 108]) (hl_with : line.toList ≠ [119, 105, 116, 104]) (hl_free : line.toList ≠ [102, 114, 101, 101]) :
  Calls Tryz.prog 11 #[.pointer (some ⟨p, 0, none⟩), .string line] w fun e w' => e = .returned (.string (⟨#[98, 97, 100]⟩ : ByteArray)) ∧ St 40 w' w0.heap.size p L nm B ∧ Below w0.heap.size w0 w' := by
 obtain ⟨A, c, Ab, cb, BKp, HT, HH, HC, HCB, HLC, HLB, GEp⟩ := Sn.op hS
 have HB := ra hB; have HWG := ra hWG; have HS := ra hs
 clear hB hWG hs
 obtain ⟨fw_tube, fw_box, fw_drop, fw_meet, fw_cut⟩ := fi_drop hW
 have fl_put := beq_eq_false_iff_ne.mpr hl_put
 have fl_all := beq_eq_false_iff_ne.mpr hl_all
 have fl_with := beq_eq_false_iff_ne.mpr hl_with
 have fl_free := beq_eq_false_iff_ne.mpr hl_free
 have fn : ((ws.length : Int) == 2) = false := beq_eq_false_iff_ne.mpr (by omega)
 have Z0 := ki 0 (ws.length : Int)
 have Z1 : (0 < ws.length) = True := eq_true h0
 have H0 := ra h0
 clear hW hlen hl_put hl_all hl_with hl_free
 have Z2 := Tryz.underlying40; have Z3 := Tryz.underlying55; have Z4 := Tryz.underlying33
 go_enter Tryz.func11, Tryz.ntmps11
 go_wp2_with (first | ((with_reducible refine gc 10 rfl ?_); refine gm (some 18) Tryz.func10 (Lb.split.calls _ _ _ _ (Lb.wg HWG) HS.out) ?_; rintro e Z5 ⟨Z6, rfl, Z7, hb⟩; obtain ⟨Aw, cw, rfl, hlw, hCw⟩ := Kd.R_reads Z7; refine ⟨_, rfl, ?_⟩; replace BKp := bb (bk BKp) hb; replace HB := bs hb; replace HT := Sn.bT HT hb; replace HH := Sn.bH HH hb; replace HC := Sn.bC HC hb; replace HCB := Sn.bC HCB hb; obtain ⟨adw, ew, Z8⟩ := Kd.at_string hCw 0 (Int.le_refl _) (by have := H0.out; omega); cases ew; replace Z8 := Sn.s0 Z8; have HW := ra hCw; have HLW := ra hlw; clear hb Z7 hCw hlw; obtain ⟨Z9, Z10, Z11, Z12, Z13, Z14⟩ := Sn.zc3 BKp))
 go_ret
 exact ⟨re, ⟨_, _, bk BKp, Sn.qS HT, Sn.qR HH, GEp.out⟩, bq⟩
theorem Sn.ia_meetBad (k p : Nat) (L : List S33) (nm : ByteArray) (B : List S46) (line : ByteArray) (ws : List ByteArray) (w0 w : World) (hB : Below w0.heap.size w0 w) (hWG : Lb.WG w0) (hS : St 40 w w0.heap.size p L nm B) (hs : Lb.split.f line (⟨#[32]⟩ : ByteArray) = some ws) (h0 : 0 < ws.length) (hW : (rdOf ByteArray.empty ws 0).toList = [109, 101, 101, 116]) (hlen : ws.length ≠ 3) (hl_put : line.toList ≠ [112, 117, 116]) (hl_all : line.toList ≠ [97, 108, 108]) (hl_with : line.toList ≠ [119, 105, 116, 104]) (hl_free : line.toList ≠ [102, 114, 101, 101]) :
  Calls Tryz.prog 11 #[.pointer (some ⟨p, 0, none⟩), .string line] w fun e w' => e = .returned (.string (⟨#[98, 97, 100]⟩ : ByteArray)) ∧ St 40 w' w0.heap.size p L nm B ∧ Below w0.heap.size w0 w' := by
 obtain ⟨A, c, Ab, cb, BKp, HT, HH, HC, HCB, HLC, HLB, GEp⟩ := Sn.op hS
 have HB := ra hB; have HWG := ra hWG; have HS := ra hs
 clear hB hWG hs
 obtain ⟨fw_tube, fw_box, fw_drop, fw_meet, fw_cut⟩ := fi_meet hW
 have fl_put := beq_eq_false_iff_ne.mpr hl_put
 have fl_all := beq_eq_false_iff_ne.mpr hl_all
 have fl_with := beq_eq_false_iff_ne.mpr hl_with
 have fl_free := beq_eq_false_iff_ne.mpr hl_free
 have fn : ((ws.length : Int) == 3) = false := beq_eq_false_iff_ne.mpr (by omega)
 have Z0 := ki 0 (ws.length : Int)
 have Z1 : (0 < ws.length) = True := eq_true h0
 have H0 := ra h0
 clear hW hlen hl_put hl_all hl_with hl_free
 have Z2 := Tryz.underlying40; have Z3 := Tryz.underlying55; have Z4 := Tryz.underlying33
 go_enter Tryz.func11, Tryz.ntmps11
 go_wp2_with (first | ((with_reducible refine gc 10 rfl ?_); refine gm (some 18) Tryz.func10 (Lb.split.calls _ _ _ _ (Lb.wg HWG) HS.out) ?_; rintro e Z5 ⟨Z6, rfl, Z7, hb⟩; obtain ⟨Aw, cw, rfl, hlw, hCw⟩ := Kd.R_reads Z7; refine ⟨_, rfl, ?_⟩; replace BKp := bb (bk BKp) hb; replace HB := bs hb; replace HT := Sn.bT HT hb; replace HH := Sn.bH HH hb; replace HC := Sn.bC HC hb; replace HCB := Sn.bC HCB hb; obtain ⟨adw, ew, Z8⟩ := Kd.at_string hCw 0 (Int.le_refl _) (by have := H0.out; omega); cases ew; replace Z8 := Sn.s0 Z8; have HW := ra hCw; have HLW := ra hlw; clear hb Z7 hCw hlw; obtain ⟨Z9, Z10, Z11, Z12, Z13, Z14⟩ := Sn.zc3 BKp))
 go_ret
 exact ⟨re, ⟨_, _, bk BKp, Sn.qS HT, Sn.qR HH, GEp.out⟩, bq⟩
theorem Sn.ia_cutBad (k p : Nat) (L : List S33) (nm : ByteArray) (B : List S46) (line : ByteArray) (ws : List ByteArray) (w0 w : World) (hB : Below w0.heap.size w0 w) (hWG : Lb.WG w0) (hS : St 40 w w0.heap.size p L nm B) (hs : Lb.split.f line (⟨#[32]⟩ : ByteArray) = some ws) (h0 : 0 < ws.length) (hW : (rdOf ByteArray.empty ws 0).toList = [99, 117, 116]) (hlen : ws.length ≠ 2) (hl_put : line.toList ≠ [112, 117, 116]) (hl_all : line.toList ≠ [97, 108, 108]) (hl_with : line.toList ≠ [119, 105, 116, 104]) (hl_free : line.toList ≠ [102, 114, 101, 101]) :
  Calls Tryz.prog 11 #[.pointer (some ⟨p, 0, none⟩), .string line] w fun e w' => e = .returned (.string (⟨#[98, 97, 100]⟩ : ByteArray)) ∧ St 40 w' w0.heap.size p L nm B ∧ Below w0.heap.size w0 w' := by
 obtain ⟨A, c, Ab, cb, BKp, HT, HH, HC, HCB, HLC, HLB, GEp⟩ := Sn.op hS
 have HB := ra hB; have HWG := ra hWG; have HS := ra hs
 clear hB hWG hs
 obtain ⟨fw_tube, fw_box, fw_drop, fw_meet, fw_cut⟩ := fi_cut hW
 have fl_put := beq_eq_false_iff_ne.mpr hl_put
 have fl_all := beq_eq_false_iff_ne.mpr hl_all
 have fl_with := beq_eq_false_iff_ne.mpr hl_with
 have fl_free := beq_eq_false_iff_ne.mpr hl_free
 have fn : ((ws.length : Int) == 2) = false := beq_eq_false_iff_ne.mpr (by omega)
 have Z0 := ki 0 (ws.length : Int)
 have Z1 : (0 < ws.length) = True := eq_true h0
 have H0 := ra h0
 clear hW hlen hl_put hl_all hl_with hl_free
 have Z2 := Tryz.underlying40; have Z3 := Tryz.underlying55; have Z4 := Tryz.underlying33
 go_enter Tryz.func11, Tryz.ntmps11
 go_wp2_with (first | ((with_reducible refine gc 10 rfl ?_); refine gm (some 18) Tryz.func10 (Lb.split.calls _ _ _ _ (Lb.wg HWG) HS.out) ?_; rintro e Z5 ⟨Z6, rfl, Z7, hb⟩; obtain ⟨Aw, cw, rfl, hlw, hCw⟩ := Kd.R_reads Z7; refine ⟨_, rfl, ?_⟩; replace BKp := bb (bk BKp) hb; replace HB := bs hb; replace HT := Sn.bT HT hb; replace HH := Sn.bH HH hb; replace HC := Sn.bC HC hb; replace HCB := Sn.bC HCB hb; obtain ⟨adw, ew, Z8⟩ := Kd.at_string hCw 0 (Int.le_refl _) (by have := H0.out; omega); cases ew; replace Z8 := Sn.s0 Z8; have HW := ra hCw; have HLW := ra hlw; clear hb Z7 hCw hlw; obtain ⟨Z9, Z10, Z11, Z12, Z13, Z14⟩ := Sn.zc3 BKp))
 go_ret
 exact ⟨re, ⟨_, _, bk BKp, Sn.qS HT, Sn.qR HH, GEp.out⟩, bq⟩
theorem Sn.ia_bad (k p : Nat) (L : List S33) (nm : ByteArray) (B : List S46) (line : ByteArray) (ws : List ByteArray) (w0 w : World) (hB : Below w0.heap.size w0 w) (hWG : Lb.WG w0) (hS : St 40 w w0.heap.size p L nm B) (hs : Lb.split.f line (⟨#[32]⟩ : ByteArray) = some ws) (h0 : 0 < ws.length) (hn_tube : (rdOf ByteArray.empty ws 0).toList ≠ [116, 117, 98, 101]) (hn_box : (rdOf ByteArray.empty ws 0).toList ≠ [98, 111, 120]) (hn_drop : (rdOf ByteArray.empty ws 0).toList ≠ [100, 114, 111, 112]) (hn_meet : (rdOf ByteArray.empty ws 0).toList ≠ [109, 101, 101, 116]) (hn_cut : (rdOf ByteArray.empty ws 0).toList ≠ [99, 117, 116]) (hl_put : line.toList ≠ [112, 117, 116]) (hl_all : line.toList ≠ [97, 108, 108]) (hl_with : line.toList ≠ [119, 105, 116, 104]) (hl_free : line.toList ≠ [102, 114, 101, 101]) :
  Calls Tryz.prog 11 #[.pointer (some ⟨p, 0, none⟩), .string line] w fun e w' => e = .returned (.string (⟨#[98, 97, 100]⟩ : ByteArray)) ∧ St 40 w' w0.heap.size p L nm B ∧ Below w0.heap.size w0 w' := by
 obtain ⟨A, c, Ab, cb, BKp, HT, HH, HC, HCB, HLC, HLB, GEp⟩ := Sn.op hS
 have HB := ra hB; have HWG := ra hWG; have HS := ra hs
 clear hB hWG hs
 have fw_tube := beq_eq_false_iff_ne.mpr hn_tube
 have fw_box := beq_eq_false_iff_ne.mpr hn_box
 have fw_drop := beq_eq_false_iff_ne.mpr hn_drop
 have fw_meet := beq_eq_false_iff_ne.mpr hn_meet
 have fw_cut := beq_eq_false_iff_ne.mpr hn_cut
 have fl_put := beq_eq_false_iff_ne.mpr hl_put
 have fl_all := beq_eq_false_iff_ne.mpr hl_all
 have fl_with := beq_eq_false_iff_ne.mpr hl_with
 have fl_free := beq_eq_false_iff_ne.mpr hl_free
 have Z0 := ki 0 (ws.length : Int)
 have Z1 : (0 < ws.length) = True := eq_true h0
 have H0 := ra h0
 clear hn_tube hn_box hn_drop hn_meet hn_cut hl_put hl_all hl_with hl_free
 have Z2 := Tryz.underlying40; have Z3 := Tryz.underlying55; have Z4 := Tryz.underlying33
 go_enter Tryz.func11, Tryz.ntmps11
 go_wp2_with (first | ((with_reducible refine gc 10 rfl ?_); refine gm (some 18) Tryz.func10 (Lb.split.calls _ _ _ _ (Lb.wg HWG) HS.out) ?_; rintro e Z5 ⟨Z6, rfl, Z7, hb⟩; obtain ⟨Aw, cw, rfl, hlw, hCw⟩ := Kd.R_reads Z7; refine ⟨_, rfl, ?_⟩; replace BKp := bb (bk BKp) hb; replace HB := bs hb; replace HT := Sn.bT HT hb; replace HH := Sn.bH HH hb; replace HC := Sn.bC HC hb; replace HCB := Sn.bC HCB hb; obtain ⟨adw, ew, Z8⟩ := Kd.at_string hCw 0 (Int.le_refl _) (by have := H0.out; omega); cases ew; replace Z8 := Sn.s0 Z8; have HW := ra hCw; have HLW := ra hlw; clear hb Z7 hCw hlw; obtain ⟨Z9, Z10, Z11, Z12, Z13, Z14⟩ := Sn.zc3 BKp))
 go_ret
 exact ⟨re, ⟨_, _, bk BKp, Sn.qS HT, Sn.qR HH, GEp.out⟩, bq⟩
end Go.Proofs.YtjelgpmhbaiipaaGreatDoor.PA
end
