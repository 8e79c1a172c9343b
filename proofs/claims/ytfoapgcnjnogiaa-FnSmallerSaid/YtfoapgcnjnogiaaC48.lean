/- Contracts of the functions spec_DrawProbeWith. (Began as a print of the kit's tool.) -/
import Derived.Test.YtfoapgcnjnogiaaPAd
import Derived.Test.YtfoapgcnjnogiaaCx
import Derived.Test.YtfoapgcnjnogiaaCz
import Derived.Test.YtfoapgcnjnogiaaCy
import Derived.Test.YtfoapgcnjnogiaaGDrawA
import Derived.Test.YtfoapgcnjnogiaaGDrawC
import Derived.Test.YtfoapgcnjnogiaaGDrawB
namespace Go.Proofs.Ytfoapgcnjnogiaa.PA
open Go.RowKit Go.Proofs.YtfoapgcnjnogiaaW.PrintWords Go.Proofs.YtfoapgcnjnogiaaW.PrintLast Go.Proofs.YtfoapgcnjnogiaaW.PrintMore Go.Proofs.Ytfoapgcnjnogiaa.Z
attribute [local go_sem] max2_int min2_int max_two min_two max_three min_three max_four min_four
set_option linter.unusedVariables false
set_option linter.unusedSimpArgs false
set_option maxHeartbeats 8000000 in
set_option maxRecDepth 100000 in
theorem spec_DrawProbeWith.calls (k : Nat) (A0 : Option Addr) (c0 : Nat) (l0 : List Int) (r1 : List (S39)) (r2 : ByteArray) (r3 : List (S26)) (w : World) (hr0 : Kd.C (Kd.int .u8) w A0 l0.length l0) (hc0 : l0.length ≤ c0) (h : spec_DrawProbeWith.f k l0 = some (r1, r2, r3)) :
  Calls Try.prog 48 #[.slice A0 l0.length c0] w fun e w' => ∃ v0_ v2_ : Value, e = .returned (.tuple #[v0_, .agg #[.string r2, v2_]]) ∧ Kd.S k39 39 w' w.heap.size (fun k_ => some k_ ≠ (v2_ : Value).ownBlock) v0_ r1 ∧ Kd.R k26 26 w' w.heap.size (fun _ => True) v2_ r3 ∧ Below w.heap.size w w' := by
 have hu39 := Try.underlying39
 have HR0 := Aside0.mk hr0
 have HC0 := Aside0.mk hc0
 clear hr0 hc0
 have HB := ra (Below.refl w.heap.size w)
 have H : ((spec_l1Open.f l0).bind fun bt1001 => ((spec_l2AnySky.f k bt1001.1 bt1001.2).bind fun bt1004 => ((spec_l2Any.f k bt1001.1 bt1004.2).bind fun bt1008 => (some (bt1004.1, bt1008.1, bt1008.2.1))))) = some (r1, r2, r3) := h
 clear h
 obtain ⟨⟨t1001, t1002⟩, A2, H⟩ := bo H
 try dsimp only at H
 obtain ⟨⟨t1004, t1007⟩, A3, H⟩ := bo H
 try dsimp only at H
 obtain ⟨⟨t1008, t1009, t1012⟩, A4, H⟩ := bo H
 try dsimp only at H
 simp only [Option.some.injEq, Prod.mk.injEq] at H
 obtain ⟨rfl, rfl, rfl⟩ := H
 go_enter Try.func48, Try.ntmps48
 go_wp2_with (first | ((with_reducible refine gate_dst (N := 3) rfl ?_); refine be 3 #[.string (⟨#[]⟩ : ByteArray), .slice none 0 0] 39 ?_; intro gb1000 hg w5 hbox hb; have _ := bs hb; have _ := ra (hbox); have _ := bz (w0 := w) hg; have _ := bz (w0 := w) hg; clear HB; rename_i HB BK1000 GW1000 GE1000; clear hb hbox hg) | ((with_reducible refine gate_callee (f := 63) rfl ?_); refine gl (some 7) Try.func63 #[.slice A0 l0.length c0] ?_; (with_reducible refine (spec_l1Open.calls _ _ l0 t1001 t1002 w _ ?side1 ?side2 ?side3 A2.out).mono ?_); (case side1 => repeat (first | (with_reducible first | exact HB.out | apply below_alloc | apply pw_below_drewN | apply below_drew1 | refine below_set ?_ GE1000.out) | exact HB.out)); (case side2 => exact HR0.out); (case side3 => exact HC0.out); rintro e w6 ⟨g1003, rfl, hi, hb, hb2⟩; refine ⟨_, rfl, ?_⟩; have _ := bb (bk BK1000) hb2; have _ := ra (hb); have _ := ra (hi); have _ := ra (IsS90.ne_blk hi (blk_below (g := gb1000) (o := .cells #[.string (⟨#[]⟩ : ByteArray), .slice none 0 0] 39 (0, 0)) (bk BK1000) hb2) (by decide)); have _ := ra (Ne.symm (IsS90.ne_blk hi (blk_below (g := gb1000) (o := .cells #[.string (⟨#[]⟩ : ByteArray), .slice none 0 0] 39 (0, 0)) (bk BK1000) hb2) (by decide))); clear BK1000 HB; rename_i BK1000 HB HI1003 NB1003_1000 NB1000_1003; (try clear hb); (try clear hb2); (try clear hk); (try clear hi)) | ((with_reducible refine gate_callee (f := 69) rfl ?_); refine gl (some 9) Try.func69 #[.pointer (some ⟨g1003, 0, none⟩)] ?_; (with_reducible refine (spec_l2AnySky.calls k g1003 t1001 t1002 t1004 t1007 w _ ?side1 ?side2 A3.out).mono ?_); (case side1 => exact qi HI1003); (case side2 => exact qb HI1003 HB); rintro e w7 ⟨v1005, rfl, ho0, hi, hb, hk⟩; refine ⟨_, rfl, ?_⟩; have _ := kv hk (bk BK1000) NB1000_1003; have _ := ra (Kd.S_lower (Kd.S_newB ho0 (g := gb1000) (o := .cells #[.string (⟨#[]⟩ : ByteArray), .slice none 0 0] 39 (0, 0)) (bk BK1000)) (below_size (qb HI1003 HB))); have _ := ra (hb); have _ := ra (hi); clear BK1000 HB HI1003; rename_i BK1000 HO1006 HB HI1003; (try clear hb); (try clear hb2); (try clear hk); (try clear hi); (try clear ho0)) | ((with_reducible refine gate_callee (f := 64) rfl ?_); refine gl (some 12) Try.func64 #[.pointer (some ⟨g1003, 0, none⟩)] ?_; (with_reducible refine (spec_l2Any.calls k g1003 t1001 t1007 t1008 t1009 t1012 w _ ?side1 ?side2 A4.out).mono ?_); (case side1 => exact qi HI1003); (case side2 => exact qb HI1003 HB); rintro e w8 ⟨v1010, rfl, ho0, hi, hb, hk⟩; refine ⟨_, rfl, ?_⟩; have _ := kv hk (bk BK1000) NB1000_1003; have _ := ra (Kd.S_mono (Kd.S_told (Kd.S_oldK (IsS90.apartS (show IsS90 w _ g1003 t1001 t1007 from qi HI1003) (by (with_reducible repeat (first | apply Kd.S_alloc | apply Kd.S_drewN | apply Kd.S_drew)); exact HO1006.out) (by decide)) hk) (Kd.R_base ho0)) (fun _ h_ => h_.1)); have _ := ra (Kd.R_lower ho0 (below_size (qb HI1003 HB))); have _ := ra (hb); have _ := ra (hi); clear BK1000 HO1006 HB HI1003; rename_i BK1000 HO1006 HO1011 HB HI1003; (try clear hb); (try clear hb2); (try clear hk); (try clear hi); (try clear ho0); have hnb9 := NB1000_1003.out; have hnc9 := NB1003_1000.out; obtain ⟨hcz10_0, hcz10_1, hfz10_0, hfz10_1⟩ := zc2 BK1000; obtain ⟨Ao11, co11, eo11⟩ := Kd.R_slice HO1011.out; subst eo11))
 refine bodyPost_ret (results_tc rfl _ _ gb1000 39 #[.string t1008, .slice Ao11 t1009.length co11] (0, 0) _ rfl (bp BK1000) Try.underlying39 rfl (by kernel_rfl)) rfl ?_
 exact ⟨_, _, re, by (with_reducible repeat (first | apply Kd.S_alloc | apply Kd.S_drewN | apply Kd.S_drew)); exact Kd.S_mono (Kd.S_far (p := ⟨gb1000, 1, none⟩) (Kd.S_far (p := ⟨gb1000, 0, none⟩) (Kd.S_mono HO1006.out (fun k_ hk => (⟨hk, hk.1.2⟩ : _ ∧ k_ ≠ gb1000))) (fun _ hk => hk.2) (.string t1008)) (fun _ hk => hk.2) (.slice Ao11 t1009.length co11)) (fun _ hk => hk.1.2), by (with_reducible repeat (first | apply Kd.R_alloc | apply Kd.R_drewN | apply Kd.R_drew)); exact Kd.R_mono (rf (Kd.R_types HO1011.out BK1000.out (by decide))) (fun _ hk => trivial), by exact qb HI1003 HB⟩
end Go.Proofs.Ytfoapgcnjnogiaa.PA
