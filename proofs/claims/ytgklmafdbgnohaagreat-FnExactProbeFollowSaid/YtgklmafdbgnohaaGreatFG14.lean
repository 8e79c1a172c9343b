/- Contracts of the program's and the reference's functions (they began as prints of the kit's tool; shortened and joined). No condition beside what the Lean functions say. -/
import Derived.Test.YtgklmafdbgnohaaGreatFR13
import Derived.Test.YtgklmafdbgnohaaGreatFG9
import Derived.Test.YtgklmafdbgnohaaGreatFPAd4
import Derived.Test.YtgklmafdbgnohaaGreatFZCx5
import Derived.Test.YtgklmafdbgnohaaGreatFG10
section
namespace Go.Proofs.YtgklmafdbgnohaaGreat.Ij
open Go.RowKit Go.Proofs.YtgklmafdbgnohaaGreatW.PrintWords Go.Proofs.YtgklmafdbgnohaaGreatW.PrintLast Go.Proofs.YtgklmafdbgnohaaGreatW.PrintMore Go.Proofs.YtgklmafdbgnohaaGreat.Z Go.Proofs.YtgklmafdbgnohaaGreat.PA Go.Proofs.YtgklmafdbgnohaaGreat.Ik Go.Proofs.YtgklmafdbgnohaaGreat.Ix Go.Proofs.YtgklmafdbgnohaaGreat.Il Go.Proofs.YtgklmafdbgnohaaGreat.Iw Go.Proofs.YtgklmafdbgnohaaGreat.Ir Go.Proofs.YtgklmafdbgnohaaGreat.Ip
set_option linter.unusedSimpArgs false
set_option linter.unusedVariables false
def s5p.T : Bool × List (List Nat × List Nat) := (true, [([], []), ([], []), ([], []), ([1, 2], [1, 2]), ([3], [3]), ([4], [4]), ([], []), ([5, 6], [5, 6]), ([7], [7]), ([], []), ([], []), ([9, 10], [9, 10]), ([11], [11]), ([12], [12]), ([], []), ([0, 8, 13, 14], [0, 8, 13, 14]), ([15, 15, 0, 1, 2, 3, 4, 5, 6, 7, 8, 9, 10, 11, 12, 13, 14, 15], [15])])
def s5p.B : List Nat := [0, 0, 0, 6, 14, 30, 0, 126, 254, 0, 0, 1536, 3584, 7680, 0, 32767, 65535]
theorem s5p.tab : rtab .any (opsOf Tryz.f59 10) = s5p.T := by kernel_rfl
theorem s5p.bits : waitsOk s5p.T.2 s5p.B = true := by kernel_rfl
theorem insC_len (c : Int × Int) (s : Sl) : ∀ I : List Ce, (insC c s I).length ≤ I.length + 1
  | [] => by simp [insC]
  | x :: r => by
    have := insC_len c s r
    rw [insC]
    split
    · simp; omega
    · split
      · simp
      · simp
theorem insS_len (s : Sl) : ∀ l : List Sl, (insS s l).length = l.length + 1
  | [] => rfl
  | x :: r => by
    have := insS_len s r
    rw [insS]
    split
    · simp; omega
    · simp
theorem insC_slots (c : Int × Int) (s : Sl) (n : Nat) : ∀ I : List Ce, (∀ x ∈ I, x.f2.length ≤ n) → ∀ x ∈ insC c s I, x.f2.length ≤ n + 1
  | [], _, x, hx => by simp [insC] at hx; subst hx; simp
  | y :: r, h, x, hx => by
    have h1 := h y (by simp)
    have h2 := insC_slots c s n r (fun z hz => h z (by simp [hz]))
    rw [insC] at hx
    split at hx
    · rcases List.mem_cons.1 hx with rfl | hx
      · omega
      · exact h2 x hx
    · split at hx
      · rcases List.mem_cons.1 hx with rfl | hx
        · have := insS_len s y.f2; simp; omega
        · have := h x (by simp [hx]); omega
      · rcases List.mem_cons.1 hx with rfl | hx
        · simp
        · have := h x hx; omega
theorem putI_small (E : List Ev) : ∀ (I : List Ce) (n : Nat), I.length ≤ n → (∀ x ∈ I, x.f2.length ≤ n) → (E.foldl putI I).length ≤ n + E.length ∧ ∀ x ∈ E.foldl putI I, x.f2.length ≤ n + E.length := by
  induction E with
  | nil => intro I n h1 h2; exact ⟨h1, h2⟩
  | cons e r ih =>
    intro I n h1 h2
    have h3 := ih (putI I e) (n + 1) (Nat.le_trans (insC_len _ _ _) (by omega)) (insC_slots _ _ n I h2)
    rw [List.foldl_cons, List.length_cons]
    exact ⟨by omega, fun x hx => by have := h3.2 x hx; omega⟩
theorem small_of (E : List Ev) : (E.foldl putI []).length ≤ E.length ∧ ∀ x ∈ E.foldl putI [], x.f2.length ≤ E.length := by
  have := putI_small E [] 0 (by simp) (by simp)
  simpa using this
structure SI (w : World) (g2 g3 : Nat) (v : Value) (D : List Tr) (W : World) : Prop where
  x : CX w.heap.size v D W
  h2 : W.heap[g2]? = some (.cells #[.slice none 0 0] 28 (0, 0))
  h3 : W.heap[g3]? = some (.cells #[v] 28 (0, 0))
  bl : Below w.heap.size w W
  l2 : w.heap.size ≤ g2
  l3 : w.heap.size ≤ g3
  n : g2 ≠ g3
theorem SI.drewN {w W : World} {g2 g3 : Nat} {v : Value} {D : List Tr} (h : SI w g2 g3 v D W) (m : Nat) : SI w g2 g3 v D (W.drewN m) :=
  ⟨h.x.drewN m, blk_drewN h.h2 m, blk_drewN h.h3 m, pw_below_drewN h.bl m, h.l2, h.l3, h.n⟩
theorem SI.sto {w W W' : World} {g2 g3 : Nat} {v v' : Value} {D D' : List Tr} (h : SI w g2 g3 v D W) (hg : W.grownBy W' v.ownBlock) (hx : CX w.heap.size v' D' W') :
    W'.heap[g2]? = some (.cells #[.slice none 0 0] 28 (0, 0)) ∧ W'.heap[g3]? = some (.cells #[v] 28 (0, 0)) ∧ Below w.heap.size w W' ∧ SI w g2 g3 v' D' (W'.setCell ⟨g3, 0, none⟩ v') := by
  have cells : ∀ (b t : Nat) (cs : Array Value), W.heap[b]? = some (.cells cs t (0, 0)) → t ≠ 84 → W'.heap[b]? = some (.cells cs t (0, 0)) := fun b t cs hb ht => (hg.block b (blk_lt hb) (fun e => by
    obtain ⟨cs', hc⟩ := own_typed h.x.o b e.symm
    rw [hb] at hc
    injection hc with hc
    injection hc with _ hc
    exact ht hc)).trans hb
  have c2 := cells _ _ _ h.h2 (by decide)
  have c3 := cells _ _ _ h.h3 (by decide)
  have hb : Below w.heap.size w W' := h.bl.grown hg h.bl.size fun j hj => own_base h.x.o j hj
  exact ⟨c2, c3, hb, hx.own c3 (by decide) _ _, blk_far c2 (p := ⟨g3, 0, none⟩) h.n v', Z.bp (ra c3), below_set hb h.l3, h.l2, h.l3, h.n⟩
end Go.Proofs.YtgklmafdbgnohaaGreat.Ij
namespace Go.Proofs.YtgklmafdbgnohaaGreat.PA
open Go.RowKit Go.Proofs.YtgklmafdbgnohaaGreatW.PrintWords Go.Proofs.YtgklmafdbgnohaaGreatW.PrintLast Go.Proofs.YtgklmafdbgnohaaGreatW.PrintMore Go.Proofs.YtgklmafdbgnohaaGreat.Z Go.Proofs.YtgklmafdbgnohaaGreat.Ik Go.Proofs.YtgklmafdbgnohaaGreat.Ix Go.Proofs.YtgklmafdbgnohaaGreat.Il Go.Proofs.YtgklmafdbgnohaaGreat.Iw Go.Proofs.YtgklmafdbgnohaaGreat.Ir Go.Proofs.YtgklmafdbgnohaaGreat.Ip Go.Proofs.YtgklmafdbgnohaaGreat.Ij
set_option linter.unusedSimpArgs false
set_option linter.unusedVariables false
set_option maxHeartbeats 8000000 in
set_option maxRecDepth 100000 in
theorem spec_ProbeIndexOf.calls (k : Nat) (A0 : Option Addr) (c0 : Nat) (l0 : List (S32)) (r : List (S84)) (w : World) (hr0 : Kd.C k32 w A0 l0.length l0) (hc0 : l0.length ≤ c0) (h : spec_ProbeIndexOf.f k l0 = some r) :
  Calls Tryz.prog 59 #[.slice A0 l0.length c0] w fun e w' => ∃ v0_ : Value, e = .returned (.agg #[v0_]) ∧ Kd.S k84 84 w' w.heap.size (fun _ => True) v0_ r ∧ Below w.heap.size w w' := by
 have hu26 := Tryz.underlying28
 have hu42 := Tryz.underlying32
 have hu45 := Tryz.underlying75
 have HR0 := Aside0.mk hr0
 have HC0 := Aside0.mk hc0
 clear hr0 hc0
 have HB := ra (Below.refl w.heap.size w)
 have H : ((spec_ProbeSkyOk.f k l0).bind fun t274 => (if t274 = true then ((Ix.spec l0).bind fun t275 => (some t275)) else (some ([] : List (S84))))) = some r := h
 clear h
 obtain ⟨t274, A2, H⟩ := bo H
 by_cases c3 : t274 = true
 · subst c3
   replace H := it H rfl
   obtain ⟨t275, A4, H⟩ := bo H
   obtain rfl := Option.some.inj H
   have hlim : Aside0 (Small l0 ∧ (evT l0).foldl putI [] = t275) := by
    have h := A4.out
    unfold Ix.spec at h
    split at h
    · exact ⟨by assumption, Option.some.inj h⟩
    · cases h
   clear H A4
   go_enter Tryz.func59, Tryz.ntmps59
   go_upto_block 0 with (first | ((with_reducible refine gate_dst (N := 2) rfl ?_); refine be 2 #[.slice none 0 0] 28 ?_; intro g2 hg2 w5 h2 hb; have K1 := ra hb; have H2 := ra h2; have L2 := ra (Nat.le_of_eq hg2.symm); clear hb h2 hg2) | ((with_reducible refine gate_dst (N := 3) rfl ?_); refine be 3 #[.slice none 0 0] 28 ?_; intro g3 hg3 w6 h3 hb; have K2 := ra (below_step K1.out hb); have I2 := bb H2.out hb; have H3 := ra h3; have L3 := ra (show w.heap.size ≤ g3 from by rw [hg3]; exact below_size K1.out); have N23 := ra (show g2 ≠ g3 from by rw [hg3]; exact Nat.ne_of_lt (blk_lt H2.out)); clear hb h3 hg3 H2 K1; obtain ⟨za, zaf⟩ := zc1 H3) | ((with_reducible refine gate_callee (f := 45) rfl ?_); refine gl (some 8) Tryz.func45 #[.slice A0 l0.length c0] ?_; (have K3 : Aside0 (Below w.heap.size w (w6.setCell ⟨g3, 0, none⟩ (.slice none 0 0))) := ⟨below_set K2.out L3.out⟩); (have J2 := blk_far I2.out (p := ⟨g3, 0, none⟩) N23.out (.slice none 0 0)); (have J3 : (w6.setCell ⟨g3, 0, none⟩ (.slice none 0 0)).heap[g3]? = some (.cells #[.slice none 0 0] 28 (0, 0)) := Z.bp H3); generalize w6.setCell ⟨g3, 0, none⟩ (.slice none 0 0) = w7 at K3 J2 J3 ⊢; (with_reducible refine (spec_ProbeSkyOk.calls k _ _ l0 true _ (Kd.C_below HR0.out K3.out) HC0.out A2.out).mono ?_); rintro e w8 ⟨rfl, hb⟩; refine ⟨_, rfl, ?_⟩; have K4 := below_step K3.out hb; have HI0 := ra (show SI w g2 g3 (.slice none 0 0) [] w8 from ⟨CX.nil _ _, blk_below J2 hb, blk_below J3 hb, K4, L2.out, L3.out, N23.out⟩); clear J2 J3 K3 K4 hb I2 H3 K2 za zaf))
   clear HB A2 L2 L3 N23
   go_cut [] (fun wc => ∃ (v : Value) (D : List Tr), Aside0 (SI w g2 g3 v D wc ∧ D.map tc = t275))
   case first =>
    go_wp2_with fail
    go_loopg [4] l0.length (fun kx s4 wr => ∃ (i : Nat) (v : Value) (D : List Tr), s4 = .int .i64 (i : Int) ∧ Aside0 (i ≤ l0.length ∧ l0.length - i ≤ kx) ∧ Aside0 (D.map tc = (evT (l0.take i)).foldl putI []) ∧ Aside0 (SI w g2 g3 v D wr))
    case atStart => exact ⟨0, _, [], rfl, ⟨Nat.zero_le _, Nat.le_refl _⟩, ⟨rfl⟩, HI0⟩
    case round =>
     clear HI0
     obtain ⟨i, v, D, rfl, HX, HD, HM⟩ := hrel
     by_cases hlt : i < l0.length
     · have hxz : (i : Int) < (l0.length : Int) := by omega
       have hx0 : (0 : Int) ≤ (i : Int) := by omega
       obtain ⟨ad, A1, c1, e, ht0, ht1, hl1, hC1⟩ := at_T32 HR0.out (i : Int) hx0 hxz
       cases e
       have HC1 := Aside0.mk hC1
       clear hl1 hC1
       have hTU : Aside0 (rd_T32 l0 (i : Int) = l0[i]) := ⟨by unfold rd_T32; simp [hlt]⟩
       generalize rd_T32 l0 (i : Int) = tu at ht0 ht1 HC1 hTU
       simp only [Int.toNat_natCast] at ht0 ht1
       have T0 := ra ht0
       have T1 := ra ht1
       clear ht0 ht1
       have hx0' := eq_true hx0
       have hxz' := eq_true hxz
       go_wp2_with fail
       go_loopg [5] tu.f1.length (fun kx s5 wr2 => ∃ (j : Nat) (v2 : Value) (D2 : List Tr), s5 = .int .i64 (j : Int) ∧ Aside0 (j ≤ tu.f1.length ∧ tu.f1.length - j ≤ kx) ∧ Aside0 (D2.map tc = (evB tu.f0 0 (tu.f1.take j)).foldl putI ((evT (l0.take i)).foldl putI [])) ∧ Aside0 (SI w g2 g3 v2 D2 wr2))
       case atStart => exact ⟨0, v, D, rfl, ⟨Nat.zero_le _, Nat.le_refl _⟩, HD, HM⟩
       case round =>
        clear HM HD
        obtain ⟨j, v2, D2, rfl, HY, HD, HM⟩ := hrel
        have ht0 := hc (ra HM.out.bl) T0.out
        have ht1 := hc (ra HM.out.bl) T1.out
        by_cases hlt2 : j < tu.f1.length
        · have hyz : (j : Int) < (tu.f1.length : Int) := by omega
          have hy0 : (0 : Int) ≤ (j : Int) := by omega
          obtain ⟨ad2, e, hb0, hb1, hb2, hb3, hb4, hb5⟩ := at_T75 HC1.out (j : Int) hy0 hyz
          cases e
          simp only [Int.toNat_natCast] at hb0 hb1 hb2 hb3 hb4 hb5
          have HBX : Aside0 (rd_T75 tu.f1 (j : Int) = tu.f1[j]) := ⟨by unfold rd_T75; simp [hlt2]⟩
          generalize rd_T75 tu.f1 (j : Int) = bx at hb0 hb1 hb2 hb3 hb4 hb5 HBX
          have hy0' := eq_true hy0
          have hyz' := eq_true hyz
          obtain ⟨A, c, hv⟩ := HM.out.x.slice
          subst hv
          have hsm := small_of (evT (l0.take i) ++ evB tu.f0 0 (tu.f1.take j))
          have hle : (evT (l0.take i) ++ evB tu.f0 0 (tu.f1.take j)).length ≤ 1000000 := by
           have := evT_pre l0 i j hlt
           rw [← hTU.out] at this
           have := hlim.out.1.1
           rw [List.length_append]
           omega
          rw [List.foldl_append, ← HD.out, List.length_map] at hsm
          have HSM := ra (show D2.length ≤ 1000000 ∧ ∀ t ∈ D2, t.2.2.length ≤ 1000000 from ⟨by omega, fun t ht => Nat.le_trans (hsm.2 (tc t) (List.mem_map_of_mem ht)) hle⟩)
          clear hsm hle
          go_wp2_with fail
          have HM2 := ra (HM.out.drewN 1)
          have HBL := ra HM2.out.bl
          have hS : ∀ w', Below w.heap.size w w' → w'.cell? ⟨g3, 0, none⟩ = some (.slice A D2.length c) → w'.cell? ⟨g3, 0, none⟩ = some (.slice A D2.length c) ∧ w'.cell? (ad.add (i * 2)) = some (.string tu.f0) ∧ w'.cell? ⟨(ad.add (i * 2)).block, (ad.add (i * 2)).off + 1, none⟩ = some (.slice (some ad2) tu.f1.length c1) ∧ w'.cell? (ad2.add (j * 6)) = some (.int .i64 bx.f0) ∧ w'.cell? ⟨(ad2.add (j * 6)).block, (ad2.add (j * 6)).off + 1, none⟩ = some (.int .i64 bx.f1) ∧ w'.cell? ⟨(ad2.add (j * 6)).block, (ad2.add (j * 6)).off + 2, none⟩ = some (.int .i64 bx.f2) ∧ w'.cell? ⟨(ad2.add (j * 6)).block, (ad2.add (j * 6)).off + 3, none⟩ = some (.int .i64 bx.f3) ∧ w'.cell? ⟨(ad2.add (j * 6)).block, (ad2.add (j * 6)).off + 4, none⟩ = some (.int .i64 bx.f4) ∧ w'.cell? ⟨(ad2.add (j * 6)).block, (ad2.add (j * 6)).off + 5, none⟩ = some (.int .i64 bx.f5) := fun w' hbl h => ⟨h, hc (ra hbl) T0.out, hc (ra hbl) T1.out, hc (ra hbl) hb0, hc (ra hbl) hb1, hc (ra hbl) hb2, hc (ra hbl) hb3, hc (ra hbl) hb4, hc (ra hbl) hb5⟩
          have HS := ra hS
          have q0 := hS _ HM2.out.bl ((blk_cell HM2.out.h3 0).trans rfl)
          clear hS
          refine start_ (n := 17) (S := fun w' => w'.cell? ⟨g3, 0, none⟩ = some (.slice A D2.length c) ∧ w'.cell? (ad.add (i * 2)) = some (.string tu.f0) ∧ w'.cell? ⟨(ad.add (i * 2)).block, (ad.add (i * 2)).off + 1, none⟩ = some (.slice (some ad2) tu.f1.length c1) ∧ w'.cell? (ad2.add (j * 6)) = some (.int .i64 bx.f0) ∧ w'.cell? ⟨(ad2.add (j * 6)).block, (ad2.add (j * 6)).off + 1, none⟩ = some (.int .i64 bx.f1) ∧ w'.cell? ⟨(ad2.add (j * 6)).block, (ad2.add (j * 6)).off + 2, none⟩ = some (.int .i64 bx.f2) ∧ w'.cell? ⟨(ad2.add (j * 6)).block, (ad2.add (j * 6)).off + 3, none⟩ = some (.int .i64 bx.f3) ∧ w'.cell? ⟨(ad2.add (j * 6)).block, (ad2.add (j * 6)).off + 4, none⟩ = some (.int .i64 bx.f4) ∧ w'.cell? ⟨(ad2.add (j * 6)).block, (ad2.add (j * 6)).off + 5, none⟩ = some (.int .i64 bx.f5)) (ds := [16]) #[false, false, false, false, false, false, false, false, false, false, false, false, false, false, false, false, false] (by kernel_rfl) rfl rfl q0 (fun hHeld => ?_)
          refine with_tabW s5p.tab s5p.bits (fun HT_ HW_ => ?_)
          have hwd : wr.drew = wr.drewN 1 := rfl
          rw [hwd] at hHeld ⊢
          clear hwd q0 hb0 hb1 hb2 hb3 hb4 hb5 ht0 ht1
          generalize wr.drewN 1 = w10 at HM2 HBL hHeld ⊢
          clear HM
          refine tk 0 27 (bl 17 1) ?_ hHeld
          refine pu 1 28 (bl 17 3) ?_
          refine pu 2 29 (bl 17 7) ?_
          refine pu 3 30 (bl 17 15) ?_
          refine pu 4 31 (bl 17 31) ?_
          refine tk 5 32 (bl 17 63) ?_ hHeld
          refine pu 6 33 (bl 17 127) ?_
          refine pu 7 34 (bl 17 255) ?_
          refine tk 8 35 (bl 17 511) ?_ hHeld
          refine pu 9 36 (bl 17 1023) ?_
          refine pu 10 37 (bl 17 2047) ?_
          refine pu 11 38 (bl 17 4095) ?_
          refine pu 12 39 (bl 17 8191) ?_
          refine tk 13 40 (bl 17 16383) ?_ hHeld
          refine pu 14 41 (bl 17 32767) ?_
          refine oe 15 42 (bl 17 65535) (fun K hK => ?_)
          refine gs Tryz.func84 #[.agg #[.slice A D2.length c], .agg #[.int .i64 bx.f0, .int .i64 bx.f1, .int .i64 bx.f2, .int .i64 bx.f3, .int .i64 bx.f4, .int .i64 bx.f5], .string tu.f0, .int .i64 (j : Int)] ?_
          with_reducible refine (Ip.spec_l5Put.calls w.heap.size (.slice A D2.length c) D2 bx.f0 bx.f1 bx.f2 bx.f3 bx.f4 bx.f5 tu.f0 (j : Int) w10 HM2.out.x (below_size HM2.out.bl) HSM.out.1 HSM.out.2).mono ?_
          rintro e w30 ⟨v', rfl, D3, hx3, hm3, hg3⟩
          refine ⟨_, rfl, ?_⟩
          obtain ⟨A3, c3, hv3⟩ := hx3.slice
          subst hv3
          have hA := HM2.out.sto hg3 hx3
          have HA := ra hA.2.2.2
          have HC3 := ra hA.2.1
          have HM3 := ra hm3
          have hs30 := HS.out _ hA.2.2.1 ((blk_cell hA.2.1 0).trans rfl)
          clear hA hx3 hm3 hg3 HM2 HBL HS HSM
          refine hK.out _ _ hs30 (fun hHeld => ?_)
          clear hK K hs30
          refine nm 42 ?_
          obtain ⟨zc, zcf⟩ := zc1 HC3
          refine last_ (i := 16) (N := none) #[true, true, true, true, true, true, true, true, true, true, true, true, true, true, true, true, true] rfl rfl (one_of HT_.out (by kernel_rfl)) (by decide) (fun K hK => ?_)
          refine skip_ (w1 := ?_) (by rfl) rfl ?_ ?_
          rotate_left
          · go_simp
            rfl
          refine hK.out _ _ ?_
          clear hK K
          refine done_ (done_of HT_.out (by kernel_rfl)) ?_
          clear hHeld HT_ HW_ zc zcf HC3
          generalize w30.setCell ⟨g3, 0, none⟩ (.slice A3 D3.length c3) = w31 at HA ⊢
          go_wp2
          go_roundg (tu.f1.length - (j + 1))
          case measure => have := HY.out; omega
          case rel =>
           refine ⟨j + 1, _, D3, by congr 1; unfold wrap64; have := hlim.out.1.2.2 tu (by rw [hTU.out]; exact List.getElem_mem hlt); omega, ⟨by omega, Nat.le_refl _⟩, ⟨?_⟩, HA⟩
           rw [evB_take _ _ _ _ hlt2, List.foldl_append, ← HD.out, HM3.out, ← HBX.out, Nat.zero_add]
           rfl
        · have hyz : ¬ ((j : Int) < (tu.f1.length : Int)) := by omega
          go_wp2_with fail
          go_roundg (l0.length - (i + 1))
          case measure => have := HX.out; omega
          case rel =>
           refine ⟨i + 1, v2, D2, by congr 1; unfold wrap64; have := hlim.out.1.2.1; omega, ⟨by omega, Nat.le_refl _⟩, ?_, HM⟩
           have e : tu.f1.take j = tu.f1 := List.take_of_length_le (by omega)
           refine ⟨?_⟩
           rw [HD.out, e, foldl_evT l0 i hlt, List.foldl_append, ← hTU.out]
     · have hxz : ¬ ((i : Int) < (l0.length : Int)) := by omega
       go_wp2_with fail
       go_meet
       have e : l0.take i = l0 := List.take_of_length_le (by omega)
       rw [e] at HD
       exact ⟨v, D, HM.out, HD.out.trans hlim.out.2⟩
   case rest =>
    obtain ⟨v, D, HM⟩ := hcut
    obtain ⟨A, c, hv⟩ := HM.out.1.x.slice
    subst hv
    have W2 := ra HM.out.1.h2
    have W3 := ra HM.out.1.h3
    have W1 := ra HM.out.1.x
    have W4 := ra HM.out.1.bl
    have W5 := ra HM.out.1.l2
    have W6 := ra HM.out.2
    clear HM HI0
    obtain ⟨z2, z2f⟩ := zc1 W2
    obtain ⟨z3, _⟩ := zc1 W3
    go_wp2_with fail
    have hW : (wc.setCell ⟨g2, 0, none⟩ (.slice A D.length c)).heap[g2]? = some (.cells #[.slice A D.length c] 28 (0, 0)) := Z.bp W2
    refine bodyPost_ret (results_cell_row rfl _ _ g2 28 #[.slice A D.length c] (0, 0) _ rfl hW Tryz.underlying28 rfl (by kernel_rfl)) rfl ?_
    exact ⟨_, re, by rw [← W6.out]; exact (W1.out.own W2.out (by decide) _ _).S, below_set W4.out W5.out⟩
 · replace c3 := Bool.eq_false_iff.mpr c3
   subst c3
   have H1 : (some ([] : List (S84))) = some r := by rw [if_neg (show ¬ (false = true) by decide)] at H; exact H
   obtain rfl := Option.some.inj H1
   clear H H1
   go_enter Tryz.func59, Tryz.ntmps59
   go_wp2_with (first | ((with_reducible refine gate_dst (N := 2) rfl ?_); refine be 2 #[.slice none 0 0] 28 ?_; intro g2 hg2 w5 h2 hb; have K1 := ra hb; have H2 := ra h2; have L2 := ra (Nat.le_of_eq hg2.symm); clear hb h2 hg2) | ((with_reducible refine gate_dst (N := 3) rfl ?_); refine be 3 #[.slice none 0 0] 28 ?_; intro g3 hg3 w6 h3 hb; have K2 := ra (below_step K1.out hb); have I2 := bb H2.out hb; have H3 := ra h3; have L3 := ra (show w.heap.size ≤ g3 from by rw [hg3]; exact below_size K1.out); have N23 := ra (show g2 ≠ g3 from by rw [hg3]; exact Nat.ne_of_lt (blk_lt H2.out)); clear hb h3 hg3 H2 K1; obtain ⟨za, zaf⟩ := zc1 H3) | ((with_reducible refine gate_callee (f := 45) rfl ?_); refine gl (some 8) Tryz.func45 #[.slice A0 l0.length c0] ?_; (have K3 : Aside0 (Below w.heap.size w (w6.setCell ⟨g3, 0, none⟩ (.slice none 0 0))) := ⟨below_set K2.out L3.out⟩); (have J2 := blk_far I2.out (p := ⟨g3, 0, none⟩) N23.out (.slice none 0 0)); (have J3 : (w6.setCell ⟨g3, 0, none⟩ (.slice none 0 0)).heap[g3]? = some (.cells #[.slice none 0 0] 28 (0, 0)) := Z.bp H3); generalize w6.setCell ⟨g3, 0, none⟩ (.slice none 0 0) = w7 at K3 J2 J3 ⊢; (with_reducible refine (spec_ProbeSkyOk.calls k _ _ l0 false _ (Kd.C_below HR0.out K3.out) HC0.out A2.out).mono ?_); rintro e w8 ⟨rfl, hb⟩; refine ⟨_, rfl, ?_⟩; have K4 := below_step K3.out hb; have HI0 := ra (show SI w g2 g3 (.slice none 0 0) [] w8 from ⟨CX.nil _ _, blk_below J2 hb, blk_below J3 hb, K4, L2.out, L3.out, N23.out⟩); clear J2 J3 K3 K4 hb I2 H3 K2 za zaf; (have W2 := ra HI0.out.h2); (have W3 := ra HI0.out.h3); obtain ⟨z2, z2f⟩ := zc1 W2; obtain ⟨z3, _⟩ := zc1 W3))
   have hW : (w8.setCell ⟨g2, 0, none⟩ (.slice none 0 0)).heap[g2]? = some (.cells #[.slice none 0 0] 28 (0, 0)) := Z.bp W2
   refine bodyPost_ret (results_cell_row rfl _ _ g2 28 #[.slice none 0 0] (0, 0) _ rfl hW Tryz.underlying28 rfl (by kernel_rfl)) rfl ?_
   exact ⟨_, re, Kd.S_nil _ _ _ _ _, below_set HI0.out.bl HI0.out.l2⟩
end Go.Proofs.YtgklmafdbgnohaaGreat.PA
end
section
namespace Go.Proofs.YtgklmafdbgnohaaGreat.PA
open Go.RowKit Go.Proofs.YtgklmafdbgnohaaGreatW.PrintWords Go.Proofs.YtgklmafdbgnohaaGreatW.PrintLast Go.Proofs.YtgklmafdbgnohaaGreatW.PrintMore Go.Proofs.YtgklmafdbgnohaaGreat.Z
attribute [local go_sem] max2_int min2_int max_two min_two max_three min_three max_four min_four
set_option linter.unusedVariables false
set_option linter.unusedSimpArgs false
set_option maxHeartbeats 8000000 in
set_option maxRecDepth 100000 in
theorem spec_ProbeFollow.calls (k : Nat) (A0_0 : Option Addr) (c0_0 : Nat) (l0_0 : List (S84)) (A1 : Option Addr) (c1 : Nat) (l1 : List (S32)) (a2_0 : Bool) (a2_1 : ByteArray) (A2_2 : Option Addr) (c2_2 : Nat) (l2_2 : List (S75)) (r : List (S84)) (w : World) (hr0_0 : Kd.C k84 w A0_0 l0_0.length l0_0) (hc0_0 : l0_0.length ≤ c0_0) (hr1 : Kd.C k32 w A1 l1.length l1) (hc1 : l1.length ≤ c1) (hr2_2 : Kd.C k75 w A2_2 l2_2.length l2_2) (hc2_2 : l2_2.length ≤ c2_2) (h : spec_ProbeFollow.f k l0_0 l1 a2_0 a2_1 l2_2 = some r) :
  Calls Tryz.prog 23 #[.agg #[.slice A0_0 l0_0.length c0_0], .slice A1 l1.length c1, .agg #[.bool a2_0, .string a2_1, .slice A2_2 l2_2.length c2_2]] w fun e w' => ∃ v0_ : Value, e = .returned (.agg #[v0_]) ∧ Kd.S k84 84 w' w.heap.size (fun _ => True) v0_ r ∧ Below w.heap.size w w' := by
 have hu28 := Tryz.underlying28
 have hu34 := Tryz.underlying34
 have HR0_0 := Aside0.mk hr0_0
 have HC0_0 := Aside0.mk hc0_0
 clear hr0_0 hc0_0
 have HR1 := Aside0.mk hr1
 have HC1 := Aside0.mk hc1
 clear hr1 hc1
 have HR2_2 := Aside0.mk hr2_2
 have HC2_2 := Aside0.mk hc2_2
 clear hr2_2 hc2_2
 have HB := ra (Below.refl w.heap.size w)
 have H : ((spec_ProbeHappen.f k l1 a2_0 a2_1 l2_2).bind fun bt917 => (if bt917.2 = 1 then (some ([] : List (S84))) else ((spec_ProbeIndexOf.f k bt917.1).bind fun t921 => (some t921)))) = some r := h
 clear h
 obtain ⟨⟨t917, t920⟩, A4, H⟩ := bo H
 try dsimp only at H
 by_cases c5 : t920 = 1
 ·rw [if_pos c5] at H
  have c5b0 : (t920 == 1) = true := beq_iff_eq.mpr c5
  have c5b1 : (t920 != 1) = false := bne_eq_false_iff_eq.mpr c5
  clear c5
  obtain rfl := Option.some.inj H
  go_enter Tryz.func23, Tryz.ntmps23
  go_wp2_with (first | ((with_reducible refine gate_dst (N := 3) rfl ?_); refine be 3 #[.slice A0_0 l0_0.length c0_0] 28 ?_; intro gb914 hg w6 hbox hb; have _ := bs hb; have _ := ra (hbox); have _ := bz (w0 := w) hg; have _ := bz (w0 := w) hg; clear HB; rename_i HB BK914 GW914 GE914; clear hb hbox hg) | ((with_reducible refine gate_dst (N := 5) rfl ?_); refine be 5 #[.bool a2_0, .string a2_1, .slice A2_2 l2_2.length c2_2] 34 ?_; intro gb915 hg w7 hbox hb; have _ := bb (bk BK914) hb; have _ := bs hb; have _ := ra (hbox); have _ := bz (w0 := w) hg; have _ := bz (w0 := w) hg; have _ := bn hg (bk BK914); have _ := bm hg (bk BK914); clear BK914 HB; rename_i BK914 HB BK915 GW915 GE915 NB914_915 NB915_914; clear hb hbox hg) | ((with_reducible refine gate_dst (N := 6) rfl ?_); refine be 6 #[.slice none 0 0] 28 ?_; intro gb916 hg w8 hbox hb; have _ := bb (bk BK914) hb; have _ := bb (bk BK915) hb; have _ := bs hb; have _ := ra (hbox); have _ := bz (w0 := w) hg; have _ := bz (w0 := w) hg; have _ := bn hg (bk BK914); have _ := bm hg (bk BK914); have _ := bn hg (bk BK915); have _ := bm hg (bk BK915); clear BK914 BK915 HB; rename_i BK914 BK915 HB BK916 GW916 GE916 NB914_916 NB916_914 NB915_916 NB916_915; clear hb hbox hg; have hnb9 := NB915_914.out; have hnc9 := NB914_915.out; have hnb10 := NB915_916.out; have hnc10 := NB916_915.out; have hcz11_0 : w8.cell? ⟨gb915, 0, none⟩ = some (.bool a2_0) := (blk_cell BK915.out 0).trans rfl; have hcz11_1 : w8.cell? ⟨gb915, 1, none⟩ = some (.string a2_1) := (blk_cell BK915.out 1).trans rfl; have hcz11_2 : w8.cell? ⟨gb915, 2, none⟩ = some (.slice A2_2 l2_2.length c2_2) := (blk_cell BK915.out 2).trans rfl; have hfz11_0 := blk_frozen BK915.out 0; have hfz11_1 := blk_frozen BK915.out 1; have hfz11_2 := blk_frozen BK915.out 2) | ((with_reducible refine gate_callee (f := 8) rfl ?_); refine gl (some 12) Tryz.func8 #[.slice A1 l1.length c1, .agg #[.bool a2_0, .string a2_1, .slice A2_2 l2_2.length c2_2]] ?_; (with_reducible refine (spec_ProbeHappen.calls k (fun k_ => k_ < w.heap.size) _ _ l1 a2_0 a2_1 (fun k_ => k_ < w.heap.size) _ _ l2_2 t917 t920 _ ?side1 ?side2 A4.out).mono ?_); (case side1 => exact Kd.V_mk HC1.out (Kd.F_below (Kd.C_F k32_heap HR1.out) bq)); (case side2 => exact Kd.V_mk HC2_2.out (Kd.F_below (Kd.C_F k75_heap HR2_2.out) bq)); rintro e w12 ⟨v918, rfl, ho0, hb⟩; refine ⟨_, rfl, ?_⟩; have _ := ra (Kd.S_lower (Kd.S_mono (ok' := fun k_ => True) ho0 (fun _ hk_ => trivial)) (below_size bq)); have _ := bb (bk BK914) hb; have _ := bb (bk BK915) hb; have _ := bb (bk BK916) hb; have _ := bs hb; clear BK914 BK915 BK916 HB; rename_i HO919 BK914 BK915 BK916 HB; (try clear hb); (try clear hb2); (try clear hk); (try clear hi); (try clear ho0); have hnb13 := NB916_914.out; have hnc13 := NB914_916.out; obtain ⟨hcz14_0, hfz14_0⟩ := zc1 BK916))
  refine bodyPost_ret (results_cell_row rfl _ _ gb916 28 #[.slice none 0 0] (0, 0) _ rfl (bp BK916) Tryz.underlying28 rfl (by kernel_rfl)) rfl ?_
  exact ⟨_, re, by first | exact Kd.S_nil _ _ _ _ _ | exact Kd.N_nil _ _ _ _ _ | exact Kd.V_nil _ _ _ _ _ | exact Kd.Q_nil _ _ _ _ _ | exact Kd.R_nil _ _ _ _ _, bq⟩
 ·rw [if_neg c5] at H
  have c5b0 : (t920 == 1) = false := beq_eq_false_iff_ne.mpr c5
  have c5b1 : (t920 != 1) = true := bne_iff_ne.mpr c5
  obtain ⟨t921, A15, H⟩ := bo H
  obtain rfl := Option.some.inj H
  go_enter Tryz.func23, Tryz.ntmps23
  go_wp2_with (first | ((with_reducible refine gate_dst (N := 3) rfl ?_); refine be 3 #[.slice A0_0 l0_0.length c0_0] 28 ?_; intro gb914 hg w16 hbox hb; have _ := bs hb; have _ := ra (hbox); have _ := bz (w0 := w) hg; have _ := bz (w0 := w) hg; clear HB; rename_i HB BK914 GW914 GE914; clear hb hbox hg) | ((with_reducible refine gate_dst (N := 5) rfl ?_); refine be 5 #[.bool a2_0, .string a2_1, .slice A2_2 l2_2.length c2_2] 34 ?_; intro gb915 hg w17 hbox hb; have _ := bb (bk BK914) hb; have _ := bs hb; have _ := ra (hbox); have _ := bz (w0 := w) hg; have _ := bz (w0 := w) hg; have _ := bn hg (bk BK914); have _ := bm hg (bk BK914); clear BK914 HB; rename_i BK914 HB BK915 GW915 GE915 NB914_915 NB915_914; clear hb hbox hg) | ((with_reducible refine gate_dst (N := 6) rfl ?_); refine be 6 #[.slice none 0 0] 28 ?_; intro gb916 hg w18 hbox hb; have _ := bb (bk BK914) hb; have _ := bb (bk BK915) hb; have _ := bs hb; have _ := ra (hbox); have _ := bz (w0 := w) hg; have _ := bz (w0 := w) hg; have _ := bn hg (bk BK914); have _ := bm hg (bk BK914); have _ := bn hg (bk BK915); have _ := bm hg (bk BK915); clear BK914 BK915 HB; rename_i BK914 BK915 HB BK916 GW916 GE916 NB914_916 NB916_914 NB915_916 NB916_915; clear hb hbox hg; have hnb19 := NB915_914.out; have hnc19 := NB914_915.out; have hnb20 := NB915_916.out; have hnc20 := NB916_915.out; have hcz21_0 : w18.cell? ⟨gb915, 0, none⟩ = some (.bool a2_0) := (blk_cell BK915.out 0).trans rfl; have hcz21_1 : w18.cell? ⟨gb915, 1, none⟩ = some (.string a2_1) := (blk_cell BK915.out 1).trans rfl; have hcz21_2 : w18.cell? ⟨gb915, 2, none⟩ = some (.slice A2_2 l2_2.length c2_2) := (blk_cell BK915.out 2).trans rfl; have hfz21_0 := blk_frozen BK915.out 0; have hfz21_1 := blk_frozen BK915.out 1; have hfz21_2 := blk_frozen BK915.out 2) | ((with_reducible refine gate_callee (f := 8) rfl ?_); refine gl (some 12) Tryz.func8 #[.slice A1 l1.length c1, .agg #[.bool a2_0, .string a2_1, .slice A2_2 l2_2.length c2_2]] ?_; (with_reducible refine (spec_ProbeHappen.calls k (fun k_ => k_ < w.heap.size) _ _ l1 a2_0 a2_1 (fun k_ => k_ < w.heap.size) _ _ l2_2 t917 t920 _ ?side1 ?side2 A4.out).mono ?_); (case side1 => exact Kd.V_mk HC1.out (Kd.F_below (Kd.C_F k32_heap HR1.out) bq)); (case side2 => exact Kd.V_mk HC2_2.out (Kd.F_below (Kd.C_F k75_heap HR2_2.out) bq)); rintro e w22 ⟨v918, rfl, ho0, hb⟩; refine ⟨_, rfl, ?_⟩; have _ := ra (Kd.S_lower (Kd.S_mono (ok' := fun k_ => True) ho0 (fun _ hk_ => trivial)) (below_size bq)); have _ := bb (bk BK914) hb; have _ := bb (bk BK915) hb; have _ := bb (bk BK916) hb; have _ := bs hb; clear BK914 BK915 BK916 HB; rename_i HO919 BK914 BK915 BK916 HB; (try clear hb); (try clear hb2); (try clear hk); (try clear hi); (try clear ho0); obtain ⟨Ao23, co23, eo23⟩ := Kd.S_slice HO919.out; subst eo23) | ((with_reducible refine gate_callee (f := 59) rfl ?_); refine gl (some 19) Tryz.func59 #[.slice Ao23 t917.length co23] ?_; (with_reducible refine (spec_ProbeIndexOf.calls k _ _ t917 t921 _ ?side1 ?side2 A15.out).mono ?_); (case side1 => repeat (first | exact (Kd.S_reads' HO919.out).2.2 | (with_reducible refine Kd.C_alloc ?_ _) | (with_reducible refine Kd.C_drewN ?_ _) | (with_reducible refine Kd.C_drew ?_))); (case side2 => exact (Kd.S_reads' HO919.out).2.1); rintro e w24 ⟨v922, rfl, ho0, hb⟩; refine ⟨_, rfl, ?_⟩; have _ := ra (Kd.S_below (by (with_reducible repeat (first | apply Kd.S_alloc | apply Kd.S_drewN | apply Kd.S_drew)); exact HO919.out) hb); have _ := ra (Kd.S_lower ho0 (below_size bq)); have _ := bb (bk BK914) hb; have _ := bb (bk BK915) hb; have _ := bb (bk BK916) hb; have _ := bs hb; clear HO919 BK914 BK915 BK916 HB; rename_i HO919 HO923 BK914 BK915 BK916 HB; (try clear hb); (try clear hb2); (try clear hk); (try clear hi); (try clear ho0); obtain ⟨Ao25, co25, eo25⟩ := Kd.S_slice HO923.out; subst eo25; have hnb26 := NB916_914.out; have hnc26 := NB914_916.out; obtain ⟨hcz27_0, hfz27_0⟩ := zc1 BK916))
  refine bodyPost_ret (results_cell_row rfl _ _ gb916 28 #[.slice Ao25 t921.length co25] (0, 0) _ rfl (bp BK916) Tryz.underlying28 rfl (by kernel_rfl)) rfl ?_
  exact ⟨_, re, by (with_reducible repeat (first | apply Kd.S_alloc | apply Kd.S_drewN | apply Kd.S_drew)); exact Kd.S_mono (Kd.S_far (p := ⟨gb916, 0, none⟩) (Kd.S_types HO923.out BK916.out (by decide)) (fun _ hk => hk.2) (.slice Ao25 t921.length co25)) (fun _ hk => trivial), bq⟩
end Go.Proofs.YtgklmafdbgnohaaGreat.PA
end
