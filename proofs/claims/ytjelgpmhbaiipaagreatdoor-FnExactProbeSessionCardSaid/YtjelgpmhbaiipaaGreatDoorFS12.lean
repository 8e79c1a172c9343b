/- Walks of the session's methods. No condition beside what the Lean functions say. -/
import Derived.Test.YtjelgpmhbaiipaaGreatDoorFZCv2
import Derived.Test.YtjelgpmhbaiipaaGreatDoorFS8
import Derived.Test.YtjelgpmhbaiipaaGreatDoorFG11
namespace Go.Proofs.YtjelgpmhbaiipaaGreatDoor.PA
open Go.RowKit Go.Proofs.YtjelgpmhbaiipaaGreatDoorW.PrintWords Go.Proofs.YtjelgpmhbaiipaaGreatDoorW.PrintLast Go.Proofs.YtjelgpmhbaiipaaGreatDoorW.PrintMore Go.Proofs.YtjelgpmhbaiipaaGreatDoor.Z
attribute [local go_sem] max2_int min2_int max_two min_two max_three min_three max_four min_four
set_option linter.unusedVariables false
set_option maxHeartbeats 8000000
set_option maxRecDepth 100000
set_option linter.unusedSimpArgs false
def spec_s_happen.f (k : Nat) (st : Sx) (d : Bool) (en : ByteArray) (Be : List S46) : Option (ByteArray × Sx) :=
 (spec_ProbeHappen.f k st.1 d en Be).bind fun pr => (spec_l7Dec.f k pr.2).bind fun t => if 5 + t.size ≤ 9223372036854775807 then some ((⟨#[99, 111, 100, 101, 32]⟩ : ByteArray) ++ t, (pr.1, st.2)) else none
theorem spec_s_happen.calls (k p : Nat) (L : List S33) (nm : ByteArray) (B : List S46) (d : Bool) (en : ByteArray) (Ae : Option Addr) (ce : Nat) (Be : List S46) (r : ByteArray) (st' : Sx) (w0 w : World) (hB : Below w0.heap.size w0 w) (hWG : Lb.WG w0) (hS : St 35 w w0.heap.size p L nm B) (Pe : Nat → Prop) (hre : Kd.V k46 46 w w.heap.size Pe (.slice Ae Be.length ce) Be) (h : spec_s_happen.f k (L, nm, B) d en Be = some (r, st')) :
  Calls Tryz.prog 20 #[.pointer (some ⟨p, 0, none⟩), .agg #[.bool d, .string en, .slice Ae Be.length ce]] w fun e w' => e = .returned (.string r) ∧ St 35 w' w0.heap.size p st'.1 st'.2.1 st'.2.2 ∧ Below w0.heap.size w0 w' := by
 obtain ⟨vT, vB, hBK, hT, hH, hp⟩ := hS
 obtain ⟨A, c, rfl, hlc, hC⟩ := Kd.S_reads hT
 have BKp := ra hBK; have HT := ra hT; have HH := ra hH; have HC := ra hC; have HRE := ra hre; have HLC := ra hlc;  have HB := ra hB; have HWG := ra hWG; have GEp := ra hp
 clear hBK hT hH hC hre hlc hB hWG hp
 unfold spec_s_happen.f at h
 obtain ⟨pr, Z0, h⟩ := bo h
 obtain ⟨nx, code⟩ := pr
 obtain ⟨t, Z1, h⟩ := bo h
 by_cases Z2 : 5 + t.size ≤ 9223372036854775807
 rotate_left
 ·rw [if_neg Z2] at h; cases h
 rw [if_pos Z2] at h
 have Z3 := eq_true Z2
 have Z4 : (9223372036854775807 < 5 + t.size) = False := eq_false (Nat.not_lt.2 Z2)
 clear Z2
 simp only [Option.some.injEq, Prod.mk.injEq] at h
 obtain ⟨rfl, rfl⟩ := h
 have Z5 := Tryz.underlying35; have Z6 := Tryz.underlying55; have Z7 := Tryz.underlying33
 go_enter Tryz.func20, Tryz.ntmps20
 try go_wp2_with (first | ((with_reducible refine gd 3 rfl ?_); refine be 3 #[.bool d, .string en, .slice Ae Be.length ce] 55 ?_; intro gbE hg Z8 hbox hb; have BKE := ra hbox; have GEE := bz (w0 := w0) hg; replace BKp := bb (bk BKp) hb; replace HB := bs hb; replace HT := Sn.sT HT hb; replace HH := Sn.sH HH hb; replace HC := Sn.sC HC hb; replace HRE := Sn.sV (base' := Z8.heap.size) HRE hb; clear hb hbox hg))
 have _ := ra (blk_drew BKp.out); have _ := ra (below_drew1 HB.out); have _ := ra (blk_drew BKE.out); have _ := Sn.drT HT; have _ := Sn.drH HH; have _ := Sn.drC HC; have _ := Sn.drV (base' := Z8.drew.heap.size) HRE
 clear BKp HB BKE HT HH HC HRE
 rename_i BKp HB BKE HT HH HC HRE
 refine start_ (n := 11) (S := fun w' => w'.cell? ⟨p, 0, none⟩ = some (.slice A L.length c) ∧ w'.cell? ⟨gbE, 0, none⟩ = some (.bool d) ∧ w'.cell? ⟨gbE, 1, none⟩ = some (.string en) ∧ w'.cell? ⟨gbE, 2, none⟩ = some (.slice Ae Be.length ce)) (ds := []) (bl 11 0) (by kernel_rfl) rfl rfl ⟨(blk_cell BKp.out 0).trans rfl, (blk_cell BKE.out 0).trans rfl, (blk_cell BKE.out 1).trans rfl, (blk_cell BKE.out 2).trans rfl⟩ (fun hHeld => ?_)
 generalize Z8.drew = wd at BKp HB BKE HT HH HC HRE hHeld ⊢
 refine pu 0 8 (bl 11 1) ?_
 refine pu 1 9 (bl 11 3) ?_
 refine pu 2 10 (bl 11 7) ?_
 refine tk 3 11 (bl 11 15) ?_ hHeld
 refine tk 4 12 (bl 11 31) ?_ hHeld
 refine oe 5 13 (bl 11 63) (fun K hK => ?_)
 refine goes_ Tryz.func46 (by kernel_rfl) rfl #[.slice A L.length c, .agg #[.bool d, .string en, .slice Ae Be.length ce]] (by rfl) rfl rfl (by simp only [List.map_toArray, List.map_cons, List.map_nil]; rfl) ?_
 with_reducible refine (spec_ProbeHappen.calls k _ _ _ L d en Pe _ _ Be nx code _ (Kd.S_V HT.out) HRE.out Z0.out).mono ?_
 rintro e Z9 ⟨Z10, rfl, Z11, hb⟩
 refine ⟨_, rfl, ?_⟩
 have _ := ra (Kd.S_mono (Kd.S_lower (Kd.S_new' Z11 (fun k_ hk_ => Kd.R_lt HH.out k_ hk_)) (below_size HB.out)) (fun _ hk_ => hk_.2))
 have _ := bb (bk BKp) hb
 have _ := bs hb
 have _ := bb (bk BKE) hb
 have _ := Sn.sT HT hb
 have _ := Sn.sH HH hb
 clear BKp HB BKE HT HH HC HRE Z11
 rename_i HN BKp HB BKE HT HH
 refine hK.out _ _ ⟨(blk_cell BKp.out 0).trans rfl, (blk_cell BKE.out 0).trans rfl, (blk_cell BKE.out 1).trans rfl, (blk_cell BKE.out 2).trans rfl⟩ (fun hHeld => ?_)
 clear hK K
 refine Z.nm 13 ?_
 refine pu 6 7 (bl 11 127) ?_
 refine pu 7 14 (bl 11 255) ?_
 refine pu 8 15 (bl 11 511) ?_
 refine pu 9 5 (bl 11 1023) ?_
 refine pu 10 6 (bl 11 2047) ?_
 refine done_ (by kernel_rfl) ?_
 obtain ⟨Av, cv, ev⟩ := Kd.S_slice HN.out
 subst ev
 have Z12 : Z9.cell? ⟨p, 0, none⟩ = some (.slice A L.length c) := (blk_cell BKp.out 0).trans rfl
 have Z13 := blk_frozen BKp.out 0
 go_wp2_with (first | ((with_reducible refine gc 15 rfl ?_); refine gy (some 21) Tryz.func15 (spec_l7Dec.calls _ _ _ _ Z1.out) ?_; rintro Z14 hb; replace HB := bs hb; replace HN := ra (Kd.S_below (Sn.setT (j := 0) (u := .slice Av nx.length cv) HN.out BKp.out (by decide)) hb); replace HH := ra (Kd.R_below (Sn.setH (j := 0) (u := .slice Av nx.length cv) HH.out BKp.out (by decide)) hb); replace BKp := bb (bp (cs2 := #[.slice Av nx.length cv, .string nm, vB]) BKp) hb; clear hb))
 go_ret
 exact ⟨re, ⟨_, _, bk BKp, Sn.qS HN, Sn.qR HH, GEp.out⟩, bq⟩
end Go.Proofs.YtjelgpmhbaiipaaGreatDoor.PA
