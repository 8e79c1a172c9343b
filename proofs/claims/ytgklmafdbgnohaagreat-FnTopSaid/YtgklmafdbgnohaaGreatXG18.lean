/- Contracts of the program's and the reference's functions (they began as prints of the kit's tool; shortened and joined). No condition beside what the Lean functions say. -/
import Derived.Test.YtgklmafdbgnohaaGreatXPAd4
import Derived.Test.YtgklmafdbgnohaaGreatXZCx5
import Derived.Test.YtgklmafdbgnohaaGreatXZCv8
import Derived.Test.YtgklmafdbgnohaaGreatXZSrch16
import Derived.Test.YtgklmafdbgnohaaGreatXZIns17
import Derived.Test.YtgklmafdbgnohaaGreatXZCy6
import Derived.Test.YtgklmafdbgnohaaGreatXG15
import Derived.Test.YtgklmafdbgnohaaGreatXG13
set_option linter.unusedVariables false
set_option linter.unusedSimpArgs false
section
namespace Go.Proofs.YtgklmafdbgnohaaGreat.PA
open Go.RowKit Go.Proofs.YtgklmafdbgnohaaGreatW.PrintWords Go.Proofs.YtgklmafdbgnohaaGreatW.PrintLast Go.Proofs.YtgklmafdbgnohaaGreatW.PrintMore Go.Proofs.YtgklmafdbgnohaaGreat.Z
attribute [local go_sem] max2_int min2_int max_two min_two max_three min_three max_four min_four
set_option maxHeartbeats 8000000
set_option maxRecDepth 100000
def impl_copyTube.T1:Bool × List (List Nat × List Nat):=(true,[([],[]),([0],[0]),([],[]),([],[]),([3],[3]),([2,4],[2,4]),([1,5],[1,5]),([6,5,0,1,2,3,4,5,6],[6])])
def impl_copyTube.B1:List Nat:=[0,1,0,0,8,28,63,127]
theorem impl_copyTube.tab1:rtab .any (opsOf Tryz.f44 1)=impl_copyTube.T1:=by kernel_rfl
theorem impl_copyTube.bits1:waitsOk impl_copyTube.T1.2 impl_copyTube.B1=true:=by kernel_rfl
theorem impl_copyTube.calls (a0_0:ByteArray) (A0_1:Option Addr) (c0_1:Nat) (l0_1:List (S75)) (r1:ByteArray) (r2:List (S75)) (w:World) (hr0_1:Kd.C k75 w A0_1 l0_1.length l0_1) (hc0_1:l0_1.length≤c0_1) (h:impl_copyTube.f a0_0 l0_1=some (r1,r2)) :
  Calls Tryz.prog 44 #[.agg #[.string a0_0, .slice A0_1 l0_1.length c0_1]] w fun e w'=>∃ v1_:Value,e = .returned (.agg #[.string r1,v1_])∧Kd.R k75 75 w' w.heap.size (fun _=>True) v1_ r2∧Below w.heap.size w w':=by
 have Z0:=Tryz.underlying32;have Z1:=ra hr0_1;have Z2:=ra hc0_1;clear hr0_1 hc0_1;have HB:=ra (Below.refl w.heap.size w);have H:=h;unfold impl_copyTube.f at H;clear h;obtain ⟨Z3,hy_⟩:∃ y_:List (S75),y_=(([]:List (S75))):=⟨_,rfl⟩;replace H:(if Z3.length+l0_1.length<2932031007402 then (some (a0_0,(Z3++l0_1))) else (none))=some (r1,r2):=yh;have Z4:=ra hy_;clear hy_;by_cases Z5:Z3.length+l0_1.length<2932031007402
 ·rw [if_pos Z5] at H;have Z6:=ra Z5;clear Z5;obtain ⟨Z7,hy_⟩:∃ y_:List (S75),y_=(Z3++l0_1):=⟨_,rfl⟩;replace H:(some (a0_0,Z7))=some (r1,r2):=yh;have Z8:=ra hy_;clear hy_;simp only [Option.some.injEq,Prod.mk.injEq] at H;obtain ⟨rfl,rfl⟩:=H
  go_enter Tryz.func44,Tryz.ntmps44
  try go_wp2_with (first | ((with_reducible refine gd 1 rfl ?_);refine bd 1 #[.string a0_0, .slice A0_1 l0_1.length c0_1] 32 ?_;intro Z9 Z10 HB Z11 Z12) | ((with_reducible refine gd 2 rfl ?_);refine bf 2 #[.string (⟨#[]⟩:ByteArray), .slice none 0 0] 32 ?_;intro Z13 Z14 hg hb HB Z15 Z16;have Z17:=bn hg (bk Z11);have Z18:=bm hg (bk Z11);replace Z11:=bb (bk Z11) hb;clear hg hb))
  have _:=ra (blk_drew Z11.out);have _:=ra (blk_drew Z15.out);have _:=ra (below_drew1 HB.out);clear Z11 Z15 HB
  rename_i Z11 Z15 HB
  refine start_ (n:=8) (S:=fun w'=>w'.cell? ⟨Z9,0,none⟩=some (.string a0_0)∧w'.cell? ⟨Z9,1,none⟩=some (.slice A0_1 l0_1.length c0_1)) (ds:=[]) (bl 8 0) (by kernel_rfl) rfl rfl ⟨(blk_cell Z11.out 0).trans rfl,(blk_cell Z11.out 1).trans rfl⟩ (fun hHeld=>?_);refine with_tabW impl_copyTube.tab1 impl_copyTube.bits1 (fun HT_ HW_=>?_)
  generalize Z14.drew=Z19 at Z11 Z15 HB hHeld ⊢
  refine pu 0 3 (bl 8 1) ?_;refine pu 3 6 (bl 8 9) ?_;refine tk 1 4 (bl 8 11) ?_ hHeld;refine tk 4 7 (bl 8 27) ?_ hHeld;refine oe 2 5 (bl 8 31) (fun K hK=>?_);refine Kd.R_lit_step k75 _ 75 ?hg (N:=5) ?hd (xs:=([]:List (S75))) (inner:=[]) (ok:=fun _=>True) (okp:=fun _=>True) ?hr ?hp (fun _ hk=>hk) trivial (Below.refl _ _) (Nat.le_refl _) (by simp) ?_;(case hd=>rfl);(case hg=>rfl);(case hr=>first | (go_simp;done) | (go_simp;rfl));(case hp=>exact (Reps.none _ _));intro Z20 Z21 Z22 hb hg_ hnew_;clear hg_ hnew_
  (first | rw [← Z4.out] at Z22 | (simp only [Int.reduceToNat] at Z22;rw [← Z4.out] at Z22))
  have _:=ra (Kd.R_lower Z22 (below_size bq));have _:=bb (bk Z11) hb;have _:=bb (bk Z15) hb;have _:=bs hb;clear Z11 Z15 HB
  rename_i Z23 Z11 Z15 HB
  clear hb Z22;refine hK.out _ _ ⟨(blk_cell Z11.out 0).trans rfl,(blk_cell Z11.out 1).trans rfl⟩ (fun hHeld=>?_);clear hK K;refine nm 5 ?_;refine oe 5 8 (bl 8 63) (fun K hK=>?_);refine Kd.R_append_rows_step k75 (w0:=w) w.heap.size (by rfl) (.tmp 5) (.tmp 7) 30 75 (.agg #[(.int .i64 0),(.int .i64 0),(.int .i64 0),(.int .i64 0),(.int .i64 0),(.int .i64 0)]) 48 rfl Tryz.underlying30 info75 rfl (by decide) (by omega) Z20 Z3 l0_1 _ _ _ (fun _=>True) (fun _=>False) rfl rfl ?aO ?aR (fun _ _ h=>h) (fun _ h=>h.elim) ?aF ?aB ?aS ?aL ?_
  (case aR=>exact sc Z1)
  (case aB=>exact bq)
  (case aF=>exact (fun _ _=>trivial))
  (case aO=>exact (rq Z23))
  (case aS=>exact (below_size bq))
  (case aL=>have:=Z6.out;omega)
  intro Z24 Z25 ho hb hg hat;rw [← Z8.out] at ho;have _:=ra (blk_grown (g:=Z9) (o := .cells #[.string a0_0, .slice A0_1 l0_1.length c0_1] 32 (0,0)) (bk Z11) hg (Kd.R_ne Z23.out Z11.out (by decide)));have _:=ra (blk_grown (g:=Z13) (o := .cells #[.string (⟨#[]⟩:ByteArray), .slice none 0 0] 32 (0,0)) (bk Z15) hg (Kd.R_ne Z23.out Z15.out (by decide)));have _:=ra (hb);have _:=ra (ho);clear Z11 Z15 HB Z23
  rename_i Z11 Z15 HB Z26
  clear ho hb hg hat;obtain ⟨Z27,Z28,Z29⟩:=Kd.R_slice Z26.out
  (first | subst Z29 | (injection Z29 with f1_ f2_ f3_;have Z30:=f1_.symm;have Z31:=f3_.symm;clear f1_ f2_ f3_;subst Z30;subst Z31))
  refine hK.out _ _ ⟨(blk_cell Z11.out 0).trans rfl,(blk_cell Z11.out 1).trans rfl⟩ (fun hHeld=>?_);clear hK K;refine nm 8 ?_;refine pu 6 9 (bl 8 127) ?_;refine one_ (i:=7) (N:=none) #[true,true,true,true,true,true,true,true] rfl rfl (one_of HT_.out (by kernel_rfl)) (by decide) (fun K hK=>?_);have Z32:Z25.cell? ⟨Z13,0,none⟩=some (.string (⟨#[]⟩:ByteArray)):=(blk_cell Z15.out 0).trans rfl;have Z33:=blk_frozen Z15.out 0;have Z34:=Z17.out;have Z35:=Z18.out;have Z36:Z25.cell? ⟨Z13,1,none⟩=some (.slice none 0 0):=(blk_cell Z15.out 1).trans rfl;have Z37:=blk_frozen Z15.out 1;have Z38:=Z17.out;have Z39:=Z18.out;refine skip_ (w1:=?_) (by rfl) rfl ?_ ?_;rotate_left
  ·go_simp
   rfl
  refine hK.out _ _ ⟨cf hHeld.1,cf hHeld.2⟩ (fun hHeld=>?_);clear hK K;refine done_ (done_of HT_.out (by kernel_rfl)) ?_
  try go_wp2
  refine bodyPost_ret (results_cell_row rfl _ _ Z13 32 #[.string a0_0, .slice Z27 Z7.length Z28] (0,0) _ rfl (bp Z15) Tryz.underlying32 rfl (by kernel_rfl)) rfl ?_;exact ⟨_,re,by (with_reducible repeat (first | apply Kd.R_alloc | apply Kd.R_drewN | apply Kd.R_drew));exact Kd.R_mono (rf (Kd.R_types Z26.out Z15.out (by decide))) (fun _ hk=>trivial),bq⟩
 ·rw [if_neg Z5] at H;exact absurd H (by simp)
theorem impl_copyTubes.calls (k:Nat) (A0:Option Addr) (c0:Nat) (l0 r:List (S32)) (w:World) (hr0:Kd.C k32 w A0 l0.length l0) (hc0:l0.length≤c0) (h:impl_copyTubes.f k l0=some r) :
  Calls Tryz.prog 40 #[.slice A0 l0.length c0] w fun e w'=>∃ v0_:Value,e = .returned (v0_)∧Kd.S k32 32 w' w.heap.size (fun _=>True) v0_ r∧Below w.heap.size w w':=by
 have Z0:=Tryz.underlying32;have Z1:=ra hr0;have Z2:=ra hc0;clear hr0 hc0;have HB:=ra (Below.refl w.heap.size w);have H:=h;unfold impl_copyTubes.f at H;clear h;obtain ⟨Z3,hy_⟩:∃ y_:List (S32),y_=(([]:List (S32))):=⟨_,rfl⟩;replace H:(impl_copyTubes.l0 k Z3 l0 (l0.length:Int) 0)=some r:=yh;have Z4:=ra hy_;clear hy_;have H':=ra H;clear H
 go_enter Tryz.func40,Tryz.ntmps40
 go_wp2_with (first | ((with_reducible refine gd 6 rfl ?_);refine Kd.S_lit k32 _ 32 ?hg (N:=6) ?hd (xs:=([]:List (S32))) (inner:=[]) (ok:=fun _=>True) (okp:=fun _=>True) ?hr ?hp (fun _ hk=>hk) trivial (Below.refl _ _) (Nat.le_refl _) (by simp) ?_;(case hd=>rfl);(case hg=>rfl);(case hr=>first | (go_simp;done) | (go_simp;rfl));(case hp=>exact (Reps.none _ _));intro Z5 Z6 Z7 hb hg_ hnew_;clear hg_ hnew_;(first | rw [← Z4.out] at Z7 | (simp only [Int.reduceToNat] at Z7;rw [← Z4.out] at Z7));have Z8:=ra (Kd.S_lower Z7 (below_size bq));replace HB:=bs hb;clear hb Z7))
 go_loopg [3,9] k (fun kq v3 v9 w'=>∃ (x3_1:List (S32)) (x9_1:Int),v9 = .int .i64 x9_1∧Aside0 (impl_copyTubes.l0 kq x3_1 l0 (l0.length:Int) x9_1=some r)∧Aside0 (kq≤k)∧Aside0 (Kd.S k32 32 w' w.heap.size (fun _=>True) v3 x3_1)∧Aside0 (Below w.heap.size w w'))
 case atStart=>exact ⟨(Z3),(0),rs,H',⟨Nat.le_refl _⟩,⟨by (with_reducible repeat (first | apply Kd.S_alloc | apply Kd.S_drewN | apply Kd.S_drew));exact Z8.out⟩,⟨bq⟩⟩
 case round =>
  clear H';obtain ⟨Z9,Z10,rfl,HA,Z11,Z12,HB⟩:=hrel
  cases gk with
  | zero=>exact absurd HA.out (by simp [impl_copyTubes.l0])
  | succ Z13 =>
   have H:=HA.out;clear HA;simp only [impl_copyTubes.l0] at H
   rcases td H with ⟨Z14,H⟩ | ⟨Z14,H⟩
   ·obtain ⟨Z15,H⟩:=tn H;obtain ⟨Z16,H⟩:=tn H;obtain ⟨⟨Z17,Z18⟩,Z19,H⟩:=bo H
    try dsimp only at H
    by_cases Z20:Z9.length<3518437208883
    ·rw [if_pos Z20] at H;have Z21:=ra Z20;clear Z20;obtain ⟨Z22,hy_⟩:∃ y_:List (S32),y_=(Z9++[(⟨Z17,Z18⟩:S32)]):=⟨_,rfl⟩;replace H:(impl_copyTubes.l0 Z13 Z22 l0 (l0.length:Int) (wrap64 (Z10+1)))=some r:=yh;have Z23:=ra hy_;clear hy_;have H':=ra H;clear H;have Z24:0≤(Z10:Int):=od;have Z25:Z10<(l0.length:Int):=od;obtain ⟨Z26,Z27,Z28,Z29,Z30,Z31,Z32,Z33⟩:=at_T32 Z1.out Z10 Z24 Z25;cases Z29
     replace Z30:=hc HB Z30;replace Z31:=hc HB Z31;have Z34:=ra Z33;have Z35:=ra Z32;clear Z33 Z32;replace Z24:=eq_true Z24;replace Z25:=eq_true Z25
     go_wp2_with (first | ((with_reducible refine gd 5 rfl ?_);refine bf 5 #[.string (⟨#[]⟩:ByteArray), .slice none 0 0] 32 ?_;intro Z36 Z37 hg hb HB Z38 Z39;replace Z12:=ra (Kd.S_below (Kd.S_elderB (by (with_reducible repeat (first | apply Kd.S_alloc | apply Kd.S_drewN | apply Kd.S_drew));exact Z12.out) Z36 (Nat.le_of_eq hg.symm)) hb);obtain ⟨Z40,Z41,Z42,Z43⟩:=zc2 Z38;clear hg hb) | ((with_reducible refine gc 44 rfl ?_);refine gx (some 15) Tryz.func44 (impl_copyTube.calls _ _ _ _ _ _ _ (Kd.C_below Z34.out bq) Z35.out Z19.out) ?_;rintro Z44 Z45 ⟨Z46,hb⟩;have Z47:=ra (Kd.R_lower Z46 (below_size bq));replace Z12:=ra (Kd.S_elder' (by (with_reducible repeat (first | apply Kd.S_alloc | apply Kd.S_drewN | apply Kd.S_drew));exact (Kd.S_mono (Kd.S_far (p:=⟨Z36,1,none⟩) (Kd.S_far (p:=⟨Z36,0,none⟩) (Kd.S_mono Z12.out (fun k_ hk=>(⟨hk,hk.2⟩:_∧k_≠Z36))) (fun _ hk=>hk.2) (.string ((rd_T32 l0 Z10).f0))) (fun _ hk=>hk.2) (.slice Z27 ((rd_T32 l0 Z10).f1).length Z28)) (fun _ h_=>h_.1))) (Kd.R_base Z46) hb);replace Z38:=bb (o := .cells #[.string ((rd_T32 l0 Z10).f0), .slice Z27 ((rd_T32 l0 Z10).f1).length Z28] 32 (0,0)) (bp Z38) hb;replace HB:=bs hb;clear hb Z46;obtain ⟨Z48,Z49,Z50⟩:=Kd.R_slice Z47.out;subst Z50) | ((with_reducible refine gate_builtin (b := .append) (xs:=#[.tmp 13, .tmp 16]) rfl ?_);at_builtin;refine Kd.S_append k32 (w0:=w) w.heap.size rfl (.tmp 13) (.tmp 16) 25 32 (.agg #[(.string ⟨#[]⟩),(.slice none 0 0)]) 40 rfl Tryz.underlying25 info32 rfl (by decide) (by omega) u3 Z9 (⟨Z17,Z18⟩:S32) [.string Z17, .slice Z48 Z18.length Z49] (fun k_=>k_≠Z36) (fun k_=>some k_=(.slice Z48 Z18.length Z49:Value).ownBlock) rfl rfl ?aP (fun k_ hk_=>((Kd.R_mono (ok':=fun k_=>((fun k_=>k_≠Z36)) k_∧some k_≠(u3:Value).ownBlock) (Kd.R_types (Kd.R_apart' (Z47.out) (Kd.S_typed Z12.out) (by decide)) Z38.out (by decide)) (fun k_ hk=>⟨hk.2,hk.1.2⟩))).1 k_ hk_.symm) ?aF ?aO ?aB ?aS ?aL ?_;(case aP=>exact k32_mkM _ _ _ (⟨Z17,Z18⟩:S32) (Kd.R_mono (Kd.R_tight rfl (Kd.R_mono (ok':=fun k_=>((fun k_=>k_≠Z36)) k_∧some k_≠(u3:Value).ownBlock) (Kd.R_types (Kd.R_apart' (Z47.out) (Kd.S_typed Z12.out) (by decide)) Z38.out (by decide)) (fun k_ hk=>⟨hk.2,hk.1.2⟩))) (fun _ h_=>h_)));(case aB=>exact bq);(case aF=>exact (fun k_ hk=>Kd.freshB (g:=Z36) (o := .cells #[.string ((rd_T32 l0 Z10).f0), .slice Z27 ((rd_T32 l0 Z10).f1).length Z28] 32 (0,0)) (bk Z38) k_ hk));(case aO=>exact (by (with_reducible repeat (first | apply Kd.S_alloc | apply Kd.S_drewN | apply Kd.S_drew));exact Kd.S_mono Z12.out (fun k_ hk=>⟨hk.1.2,fun e_=>hk.2 e_⟩)));(case aS=>exact (below_size bq));(case aL=>have:=Z21.out;omega);intro Z51 Z52 ho hb hg hat;rw [← Z23.out] at ho;have _:=ra (blk_grown (g:=Z36) (o := .cells #[.string ((rd_T32 l0 Z10).f0), .slice Z27 ((rd_T32 l0 Z10).f1).length Z28] 32 (0,0)) (bk Z38) hg (Kd.S_away Z12.out (fun _ hk=>hk.1.2)));have _:=ra (hb);have _:=ra (ho);clear Z38 HB Z12 Z47;rename_i Z38 HB Z53;clear ho hb hg hat))
     go_roundg Z13
     case measure=>have:=Z11.out;omega
     case rel=>exact ⟨_,_,rs,H',⟨by have:=Z11.out;omega⟩,⟨by (with_reducible repeat (first | apply Kd.S_alloc | apply Kd.S_drewN | apply Kd.S_drew));exact Kd.S_mono Z53.out (fun _ hk=>trivial)⟩,⟨bq⟩⟩
    ·rw [if_neg Z20] at H;exact absurd H (by simp)
   ·obtain rfl:=Option.some.inj H;go_wp2;go_ret
    exact ⟨_,re,by (with_reducible repeat (first | apply Kd.S_alloc | apply Kd.S_drewN | apply Kd.S_drew));exact Z12.out,bq⟩
def impl_ProbeHappen.T5:Bool × List (List Nat × List Nat):=(true,[([],[]),([],[]),([1],[1]),([0,2],[0,2]),([3],[3]),([4],[4]),([4],[4]),([5,6,4],[4,5,6]),([7,4],[4,7]),([8,4],[4,8]),([4],[4]),([10,4],[4,10]),([11,4],[4,11]),([9,12,4],[4,9,12]),([4,13],[4,13]),([14,4,0,1,2,3,4,5,6,7,8,9,10,11,12,13,14],[14])])
def impl_ProbeHappen.B5:List Nat:=[0,0,2,7,15,31,31,127,255,511,31,1055,3103,8191,16383,32767]
theorem impl_ProbeHappen.tab5:rtab .any (opsOf Tryz.f7 5)=impl_ProbeHappen.T5:=by kernel_rfl
theorem impl_ProbeHappen.bits5:waitsOk impl_ProbeHappen.T5.2 impl_ProbeHappen.B5=true:=by kernel_rfl
def impl_ProbeHappen.T11:Bool × List (List Nat × List Nat):=(true,[([],[]),([],[]),([0,1],[0,1]),([],[]),([],[]),([4],[4]),([3,5],[3,5]),([2,6],[2,6]),([7,7,0,1,2,3,4,5,6,7],[7]),([8,0,1,2,3,4,5,6,7,8],[])])
def impl_ProbeHappen.B11:List Nat:=[0,0,3,0,0,16,56,127,255,511]
theorem impl_ProbeHappen.tab11:rtab .any (opsOf Tryz.f7 11)=impl_ProbeHappen.T11:=by kernel_rfl
theorem impl_ProbeHappen.bits11:waitsOk impl_ProbeHappen.T11.2 impl_ProbeHappen.B11=true:=by kernel_rfl
def impl_ProbeHappen.T17:Bool × List (List Nat × List Nat):=(true,[([],[]),([0],[0]),([1],[1]),([2],[2]),([],[]),([],[]),([4,5],[4,5]),([3,6,2],[3,6]),([7,7,0,1,2,3,4,5,6,7],[7])])
def impl_ProbeHappen.B17:List Nat:=[0,1,3,7,0,0,48,127,255]
theorem impl_ProbeHappen.tab17:rtab .any (opsOf Tryz.f7 17)=impl_ProbeHappen.T17:=by kernel_rfl
theorem impl_ProbeHappen.bits17:waitsOk impl_ProbeHappen.T17.2 impl_ProbeHappen.B17=true:=by kernel_rfl
theorem impl_ProbeHappen.calls (k:Nat) (A0:Option Addr) (c0:Nat) (l0:List (S32)) (a1_0:Bool) (a1_1:ByteArray) (A1_2:Option Addr) (c1_2:Nat) (l1_2:List (S75)) (r1:List (S32)) (r2:Int) (w:World) (hr0:Kd.C k32 w A0 l0.length l0) (hc0:l0.length≤c0) (hr1_2:Kd.C k75 w A1_2 l1_2.length l1_2) (hc1_2:l1_2.length≤c1_2) (h:impl_ProbeHappen.f k l0 a1_0 a1_1 l1_2=some (r1,r2)) :
  Calls Tryz.prog 7 #[.slice A0 l0.length c0, .agg #[.bool a1_0, .string a1_1, .slice A1_2 l1_2.length c1_2]] w fun e w'=>∃ v0_:Value,e = .returned (.tuple #[v0_, .int .i64 r2])∧Kd.S k32 32 w' w.heap.size (fun _=>True) v0_ r1∧Below w.heap.size w w':=by
 have Z0:=Tryz.underlying34;have Z1:=Tryz.underlying32;have Z2:=ra hr0;have Z3:=ra hc0;clear hr0 hc0;have Z4:=ra hr1_2;have Z5:=ra hc1_2;clear hr1_2 hc1_2;have HB:=ra (Below.refl w.heap.size w);have H:=h;unfold impl_ProbeHappen.f at H;clear h;obtain ⟨Z6,Z7,H⟩:=bo H
 rcases ud H with ⟨rfl,Z8⟩ | ⟨rfl,Z8⟩<;>have H:=Z8
 ·obtain ⟨Z9, Z10, H⟩:=bo H;obtain ⟨Z11,Z12,H⟩:=bo H;have Z13:=ra H;clear H
  go_enter Tryz.func7,Tryz.ntmps7
  go_upto_region 5 with (first | ((with_reducible refine gd 2 rfl ?_);refine bd 2 #[.slice A0 l0.length c0] 25 ?_;intro Z14 Z15 HB Z16 Z17) | ((with_reducible refine gd 3 rfl ?_);refine bf 3 #[.bool a1_0, .string a1_1, .slice A1_2 l1_2.length c1_2] 34 ?_;intro Z18 Z19 hg hb HB Z20 Z21;have Z22:=bn hg (bk Z16);have Z23:=bm hg (bk Z16);replace Z16:=bb (bk Z16) hb;have Z24:=Z22.out;have Z25:=Z23.out;obtain ⟨Z26,Z27⟩:=zc1 Z16;clear hg hb) | ((with_reducible refine gc 11 rfl ?_);refine gy (some 11) Tryz.func11 (impl_ProbeSkyOk.calls _ _ _ _ _ _ (sc Z2) Z3.out Z7.out) ?_;rintro Z28 hb;replace Z16:=bb (bk Z16) hb;replace Z20:=bb (bk Z20) hb;replace HB:=bs hb;clear hb;obtain ⟨Z29,Z30⟩:=zc1 Z16) | ((with_reducible refine gc 40 rfl ?_);refine gx (some 14) Tryz.func40 (impl_copyTubes.calls _ _ _ _ _ _ (sc Z2) Z3.out Z10.out) ?_;rintro Z31 Z32 ⟨Z33,hb⟩;have Z34:=ra (Kd.S_lower Z33 (below_size bq));replace Z16:=bb (bk Z16) hb;replace Z20:=bb (bk Z20) hb;replace HB:=bs hb;clear hb Z33;obtain ⟨Z35,Z36⟩:=zc1 Z16;have Z37:Z32.cell? ⟨Z18,0,none⟩=some (.bool a1_0):=(blk_cell Z20.out 0).trans rfl;have Z38:Z32.cell? ⟨Z18,1,none⟩=some (.string a1_1):=(blk_cell Z20.out 1).trans rfl;have Z39:Z32.cell? ⟨Z18,2,none⟩=some (.slice A1_2 l1_2.length c1_2):=(blk_cell Z20.out 2).trans rfl;have Z40:=blk_frozen Z20.out 0;have Z41:=blk_frozen Z20.out 1;have Z42:=blk_frozen Z20.out 2) | ((with_reducible refine gc 41 rfl ?_);refine gy (some 18) Tryz.func41 (impl_search.calls _ _ _ _ _ _ _ (bk Z16) (bk Z20) (sc Z2) Z3.out Z12.out) ?_;rintro Z43 hb;replace Z34:=ra (Kd.S_below (by (with_reducible repeat (first | apply Kd.S_alloc | apply Kd.S_drewN | apply Kd.S_drew));exact Z34.out) hb);replace Z16:=bb (bk Z16) hb;replace Z20:=bb (bk Z20) hb;replace HB:=bs hb;clear hb))
  (try simp only [Act.put,List.setIfInBounds_toArray,List.set_cons_zero,List.set_cons_succ])
  go_cut [8] (fun v8 wc=>∃ (kq:Nat) (x8_6:Bool),v8 = .bool x8_6∧Aside0 (impl_ProbeHappen.j0 kq Z9 Z11 x8_6 l0 a1_0 a1_1 l1_2=some (r1,r2))∧Aside0 (kq≤k)∧Aside0 (Kd.S k32 32 wc w.heap.size (fun _=>True) Z31 Z9)∧Aside0 (wc.heap[Z14]? = some (.cells #[(.slice A0 l0.length c0)] 25 (0,0)))∧Aside0 (wc.heap[Z18]? = some (.cells #[.bool a1_0, .string a1_1,(.slice A1_2 l1_2.length c1_2)] 34 (0,0)))∧Aside0 (Below w.heap.size w wc))
  case first =>
   have H:=Z13.out;clear Z13
   rcases td H with ⟨Z44,H⟩ | ⟨Z44,H⟩
   ·(first | rw [Z44] | (simp only [i64_w,i32_w];rw [Z44]) | skip)
    obtain ⟨Z45,H⟩:=tn H;have H':=ra H;clear H
    try go_wp2
    have _:=ra (Kd.S_drew Z34.out);have _:=ra (blk_drew Z16.out);have _:=ra (blk_drew Z20.out);have _:=ra (below_drew1 HB.out);clear Z34 Z16 Z20 HB
    rename_i Z34 Z16 Z20 HB
    have Z46:0≤(Z11:Int):=od;have Z47:Z11<(l0.length:Int):=od;obtain ⟨Z48,Z49,Z50,Z51,Z52,Z53,Z54,Z55⟩:=at_T32 Z2.out Z11 Z46 Z47;have Z56:=Z53;have Z57:=Z52;cases Z51
    replace Z52:=hc HB Z52;replace Z53:=hc HB Z53;have Z58:=ra Z55;have Z59:=ra Z54;clear Z55 Z54;replace Z46:=eq_true Z46;replace Z47:=eq_true Z47;refine start_ (n:=16) (S:=fun w'=>w'.cell? ⟨Z14,0,none⟩=some (.slice (some Z48) l0.length c0)∧w'.cell? ⟨Z18,0,none⟩=some (.bool a1_0)∧w'.cell? ⟨Z18,1,none⟩=some (.string a1_1)∧w'.cell? ⟨Z18,2,none⟩=some (.slice A1_2 l1_2.length c1_2)∧w'.cell? (Z48.add ((Z11).toNat * 2))=some (.string ((rd_T32 l0 Z11).f0))∧w'.cell? ⟨(Z48.add ((Z11).toNat * 2)).block,(Z48.add ((Z11).toNat * 2)).off+1,none⟩=some (.slice Z49 ((rd_T32 l0 Z11).f1).length Z50)) (ds:=[]) (bl 16 0) (by kernel_rfl) rfl rfl ⟨(blk_cell Z16.out 0).trans rfl,(blk_cell Z20.out 0).trans rfl,(blk_cell Z20.out 1).trans rfl,(blk_cell Z20.out 2).trans rfl,(hc HB Z57),(hc HB Z56)⟩ (fun hHeld=>?_);refine with_tabW impl_ProbeHappen.tab5 impl_ProbeHappen.bits5 (fun HT_ HW_=>?_)
    generalize Z43.drew=Z60 at Z34 Z16 Z20 HB Z58 Z52 Z53 hHeld ⊢
    refine pu 0 19 (bl 16 1) ?_;refine tk 1 20 (bl 16 3) ?_ hHeld;refine pu 2 21 (bl 16 7) ?_;refine pu 3 22 (bl 16 15) ?_;refine pu 4 23 (bl 16 31) ?_;refine pu 6 25 (bl 16 95) ?_;refine pu 10 29 (bl 16 1119) ?_;refine pu 11 30 (bl 16 3167) ?_;refine tk 5 24 (bl 16 3199) ?_ hHeld;refine pu 7 26 (bl 16 3327) ?_;refine pu 8 27 (bl 16 3583) ?_;refine tk 9 28 (bl 16 4095) ?_ hHeld;refine tk 12 31 (bl 16 8191) ?_ hHeld;refine pu 13 32 (bl 16 16383) ?_;refine pu 14 33 (bl 16 32767) ?_;refine pu 15 8 (bl 16 65535) ?_;refine done_ (done_of HT_.out (by kernel_rfl)) ?_
    try go_wp2
    go_meet
    case rel=>exact ⟨_,_,rs,H',⟨by first | omega | exact Nat.le_refl _⟩,⟨by (with_reducible repeat (first | apply Kd.S_alloc | apply Kd.S_drewN | apply Kd.S_drew));exact Z34.out⟩,⟨bk Z16⟩,⟨bk Z20⟩,⟨bq⟩⟩
   ·(first | rw [Z44] | (simp only [i64_w,i32_w];rw [Z44]) | skip)
    have H':=ra H;clear H
    try go_wp2
    have _:=ra (Kd.S_drew Z34.out);have _:=ra (blk_drew Z16.out);have _:=ra (blk_drew Z20.out);have _:=ra (below_drew1 HB.out);clear Z34 Z16 Z20 HB
    rename_i Z34 Z16 Z20 HB
    refine start_ (n:=16) (S:=fun w'=>w'.cell? ⟨Z14,0,none⟩=some (.slice A0 l0.length c0)) (ds:=[]) (bl 16 0) (by kernel_rfl) rfl rfl ((blk_cell Z16.out 0).trans rfl) (fun hHeld=>?_);refine with_tabW impl_ProbeHappen.tab5 impl_ProbeHappen.bits5 (fun HT_ HW_=>?_)
    generalize Z43.drew=Z45 at Z34 Z16 Z20 HB hHeld ⊢
    refine pu 0 19 (bl 16 1) ?_;refine take_ (i:=1) (N:=some 20) (v:=?_) (a':=?_) #[true,true,false,false,false,false,false,false,false,false,false,false,false,false,false,false] rfl rfl (take_ofW HT_.out HW_.out (by kernel_rfl)) (fun _ _ _ h=>h) (Or.inl ⟨by rfl,?_⟩) hHeld ?_ ?_;rotate_left
    ·intro w' Z46;go_simp
     with_reducible rfl
    rotate_left
    ·simp only [Act.put,List.setIfInBounds_toArray,List.set_cons_zero,List.set_cons_succ,i64_w,i32_w];rfl
    refine pu 2 21 (bl 16 7) ?_;refine pu 3 22 (bl 16 15) ?_;refine pu 4 23 (bl 16 31) ?_;refine pv 5 24 (bl 16 63) ?_;refine pv 6 25 (bl 16 127) ?_;refine pv 7 26 (bl 16 255) ?_;refine pv 8 27 (bl 16 511) ?_;refine pv 9 28 (bl 16 1023) ?_;refine pv 10 29 (bl 16 2047) ?_;refine pv 11 30 (bl 16 4095) ?_;refine pv 12 31 (bl 16 8191) ?_;refine pv 13 32 (bl 16 16383) ?_;refine pu 14 33 (bl 16 32767) ?_;refine pu 15 8 (bl 16 65535) ?_;refine done_ (done_of HT_.out (by kernel_rfl)) ?_
    try go_wp2
    go_meet
    case rel=>exact ⟨_,_,rs,H',⟨by first | omega | exact Nat.le_refl _⟩,⟨by (with_reducible repeat (first | apply Kd.S_alloc | apply Kd.S_drewN | apply Kd.S_drew));exact Z34.out⟩,⟨bk Z16⟩,⟨bk Z20⟩,⟨bq⟩⟩
  case rest =>
   clear Z13
   try clear Z26
   try clear Z29
   try clear Z35
   try clear Z37
   try clear Z38
   try clear Z39
   try clear Z27
   try clear Z30
   try clear Z36
   try clear Z40
   try clear Z41
   try clear Z42
   obtain ⟨kq,Z44,rfl,HA,Z45,Z46,Z16,Z20,HB⟩:=hcut
   cases kq with
   | zero=>exact absurd HA.out (by simp [impl_ProbeHappen.j0])
   | succ Z47 =>
    have H:=HA.out;clear HA;simp only [impl_ProbeHappen.j0] at H;have Z48:=ra H;clear H
    go_upto_region 6 with (fail)
    go_cut [34] (fun v34 wc=>∃ (kq:Nat) (x34_21:Bool),v34 = .bool x34_21∧Aside0 (impl_ProbeHappen.j1 kq Z9 Z11 Z44 x34_21 l0 a1_0 a1_1 l1_2=some (r1,r2))∧Aside0 (kq≤Z47)∧Aside0 (Kd.S k32 32 wc w.heap.size (fun _=>True) Z31 Z9)∧Aside0 (wc.heap[Z14]? = some (.cells #[(.slice A0 l0.length c0)] 25 (0,0)))∧Aside0 (wc.heap[Z18]? = some (.cells #[.bool a1_0, .string a1_1,(.slice A1_2 l1_2.length c1_2)] 34 (0,0)))∧Aside0 (Below w.heap.size w wc))
    case first =>
     have H:=Z48.out;clear Z48
     rcases ud H with ⟨rfl,Z49⟩ | ⟨rfl,Z49⟩<;>have H:=Z49
     ·have H':=ra H;clear H;have Z50:=Z23.out;have Z51:=Z22.out;have Z52:wc.cell? ⟨Z18,0,none⟩=some (.bool true):=(blk_cell Z20.out 0).trans rfl;have Z53:wc.cell? ⟨Z18,1,none⟩=some (.string a1_1):=(blk_cell Z20.out 1).trans rfl;have Z54:wc.cell? ⟨Z18,2,none⟩=some (.slice A1_2 l1_2.length c1_2):=(blk_cell Z20.out 2).trans rfl;have Z55:=blk_frozen Z20.out 0;have Z56:=blk_frozen Z20.out 1;have Z57:=blk_frozen Z20.out 2;go_wp2;go_meet
      case rel=>exact ⟨_,_,rs,H',⟨by have:=Z45.out;first | omega | exact Nat.le_refl _⟩,⟨by (with_reducible repeat (first | apply Kd.S_alloc | apply Kd.S_drewN | apply Kd.S_drew));exact Z46.out⟩,⟨bk Z16⟩,⟨bk Z20⟩,⟨bq⟩⟩
     ·obtain ⟨Z50,Z51,H⟩:=bo H;have H':=ra H;clear H;have Z52:=Z23.out;have Z53:=Z22.out;have Z54:wc.cell? ⟨Z18,0,none⟩=some (.bool false):=(blk_cell Z20.out 0).trans rfl;have Z55:wc.cell? ⟨Z18,1,none⟩=some (.string a1_1):=(blk_cell Z20.out 1).trans rfl;have Z56:wc.cell? ⟨Z18,2,none⟩=some (.slice A1_2 l1_2.length c1_2):=(blk_cell Z20.out 2).trans rfl;have Z57:=blk_frozen Z20.out 0;have Z58:=blk_frozen Z20.out 1;have Z59:=blk_frozen Z20.out 2
      go_wp2_with (first | (go_at_call 43;(with_reducible refine (impl_ProbeTubeOk.calls _ _ _ _ _ _ _ ?side1 ?side2 Z51.out).mono ?_);(case side1=>exact sc Z4);(case side2=>exact Z5.out);rintro e Z60 ⟨rfl,hb⟩;replace Z46:=ra (Kd.S_below (by (with_reducible repeat (first | apply Kd.S_alloc | apply Kd.S_drewN | apply Kd.S_drew));exact Z46.out) hb);replace Z16:=bb (bk Z16) hb;replace Z20:=bb (bk Z20) hb;replace HB:=bs hb;clear hb))
      go_meet
      case rel=>exact ⟨_,_,rs,H',⟨by have:=Z45.out;first | omega | exact Nat.le_refl _⟩,⟨by (with_reducible repeat (first | apply Kd.S_alloc | apply Kd.S_drewN | apply Kd.S_drew));exact Z46.out⟩,⟨bk Z16⟩,⟨bk Z20⟩,⟨bq⟩⟩
    case rest =>
     clear Z48
     try clear Z26
     try clear Z29
     try clear Z35
     try clear Z37
     try clear Z38
     try clear Z39
     try clear Z27
     try clear Z30
     try clear Z36
     try clear Z40
     try clear Z41
     try clear Z42
     obtain ⟨kq,Z49,rfl,HA,Z50,Z46,Z16,Z20,HB⟩:=hcut
     cases kq with
     | zero=>exact absurd HA.out (by simp [impl_ProbeHappen.j1])
     | succ Z51 =>
      have H:=HA.out;clear HA;simp only [impl_ProbeHappen.j1] at H
      rcases ud H with ⟨rfl,Z52⟩ | ⟨rfl,Z52⟩<;>have H:=Z52
      ·simp only [Option.some.injEq,Prod.mk.injEq] at H;obtain ⟨rfl,rfl⟩:=H;go_wp2;go_ret2;exact ⟨_,re,by (with_reducible repeat (first | apply Kd.S_alloc | apply Kd.S_drewN | apply Kd.S_drew));exact Z46.out,bq⟩
      ·have Z53 := ra H;clear H
       go_upto_region 8 with (fail)
       go_cut [45] (fun v45 wc=>∃ (kq:Nat) (x45_30:Bool),v45 = .bool x45_30∧Aside0 (impl_ProbeHappen.j2 kq Z9 Z11 Z44 x45_30 l0 a1_0 a1_1 l1_2=some (r1,r2))∧Aside0 (kq≤Z51)∧Aside0 (Kd.S k32 32 wc w.heap.size (fun _=>True) Z31 Z9)∧Aside0 (wc.heap[Z14]? = some (.cells #[(.slice A0 l0.length c0)] 25 (0,0)))∧Aside0 (wc.heap[Z18]? = some (.cells #[.bool a1_0, .string a1_1,(.slice A1_2 l1_2.length c1_2)] 34 (0,0)))∧Aside0 (Below w.heap.size w wc))
       case first =>
        have H:=Z53.out;clear Z53
        rcases ud H with ⟨rfl,Z54⟩ | ⟨rfl,Z54⟩<;>have H:=Z54
        have H':=ra H;clear H;have Z55:=Z23.out;have Z56:=Z22.out;have Z57:wc.cell? ⟨Z18,0,none⟩=some (.bool true):=(blk_cell Z20.out 0).trans rfl;rotate_left;have H':=ra H;clear H;have Z55:=Z23.out;have Z56:=Z22.out;have Z57:wc.cell? ⟨Z18,0,none⟩=some (.bool false):=(blk_cell Z20.out 0).trans rfl;rotate_left
        all_goals
         have Z58:wc.cell? ⟨Z18,1,none⟩=some (.string a1_1):=(blk_cell Z20.out 1).trans rfl;have Z59:wc.cell? ⟨Z18,2,none⟩=some (.slice A1_2 l1_2.length c1_2):=(blk_cell Z20.out 2).trans rfl;have Z60:=blk_frozen Z20.out 0;have Z61:=blk_frozen Z20.out 1;have Z62:=blk_frozen Z20.out 2;go_wp2;go_meet
         case rel=>exact ⟨_,_,rs,H',⟨by have:=Z45.out;have:=Z50.out;first | omega | exact Nat.le_refl _⟩,⟨by (with_reducible repeat (first | apply Kd.S_alloc | apply Kd.S_drewN | apply Kd.S_drew));exact Z46.out⟩,⟨bk Z16⟩,⟨bk Z20⟩,⟨bq⟩⟩
       case rest =>
        clear Z53
        try clear Z26
        try clear Z29
        try clear Z35
        try clear Z37
        try clear Z38
        try clear Z39
        try clear Z27
        try clear Z30
        try clear Z36
        try clear Z40
        try clear Z41
        try clear Z42
        obtain ⟨kq,Z54,rfl,HA,Z55,Z46,Z16,Z20,HB⟩:=hcut
        cases kq with
        | zero=>exact absurd HA.out (by simp [impl_ProbeHappen.j2])
        | succ Z56 =>
         have H:=HA.out;clear HA;simp only [impl_ProbeHappen.j2] at H
         rcases ud H with ⟨rfl,Z57⟩ | ⟨rfl,Z57⟩<;>have H:=Z57
         ·simp only [Option.some.injEq,Prod.mk.injEq] at H;obtain ⟨rfl,rfl⟩:=H;go_wp2;go_ret2;exact ⟨_,re,by (with_reducible repeat (first | apply Kd.S_alloc | apply Kd.S_drewN | apply Kd.S_drew));exact Z46.out,bq⟩
         ·rcases ud H with ⟨rfl,Z58⟩ | ⟨rfl,Z58⟩<;>have H:=Z58
          ·by_cases Z59:0≤Z11
           ·rw [if_pos Z59] at H;have Z60:=eq_true Z59;have Z61:decide (0≤Z11)=true:=decide_eq_true Z59;clear Z59;by_cases Z62:Z11≤(Z9.length:Int)
            ·rw [if_pos Z62] at H;have Z63:=eq_true Z62;have Z64:decide (Z11≤(Z9.length:Int))=true:=decide_eq_true Z62;clear Z62;obtain ⟨Z65,hy_⟩:∃ y_:List (S32),y_=(Z9.take (Z11:Int).toNat):=⟨_,rfl⟩;replace H:(if 0≤(wrap64 (Z11+1)) then (if (wrap64 (Z11+1))≤(Z9.length:Int) then (some ((Z9.eraseIdx (Z11:Int).toNat),0)) else (none)) else (none))=some (r1,r2):=yh;have Z66:=ra hy_;clear hy_;obtain ⟨Z67,Z68⟩:∃ j_:Int,(wrap64 (Z11+1))=j_:=⟨_,rfl⟩;replace H:(if 0≤(Z67) then (if (Z67)≤(Z9.length:Int) then (some ((Z9.eraseIdx (Z11:Int).toNat),0)) else (none)) else (none))=some (r1,r2):=by first | (rw [Z68] at H;exact H) | (simp only [Z68] at H ⊢;exact H)
             have Z69:(IntKind.i64.wrap (Z11+1))=Z67:=(i64_w _).trans Z68;by_cases Z70:0≤(Z67)
             ·rw [if_pos Z70] at H;have Z71:=eq_true Z70;have Z72:decide (0≤(Z67))=true:=decide_eq_true Z70;clear Z70;by_cases Z73:(Z67)≤(Z9.length:Int)
              ·rw [if_pos Z73] at H;have Z74:=eq_true Z73;have Z75:decide ((Z67)≤(Z9.length:Int))=true:=decide_eq_true Z73;clear Z73;obtain ⟨Z76,hy_⟩:∃ y_:List (S32),y_=(Z9.drop ((Z67):Int).toNat):=⟨_,rfl⟩;replace H:(some ((Z9.eraseIdx (Z11:Int).toNat),0))=some (r1,r2):=yh;have Z77:=ra hy_;clear hy_;obtain ⟨Z78,hy_⟩:∃ y_:List (S32),y_=(Z9.eraseIdx (Z11:Int).toNat):=⟨_,rfl⟩;replace H:(some (Z78,0))=some (r1,r2):=yh;have Z79:=ra hy_;clear hy_;simp only [Option.some.injEq,Prod.mk.injEq] at H;obtain ⟨rfl,rfl⟩:=H;have Z80:=Z23.out;have Z81:=Z22.out;have Z82:wc.cell? ⟨Z18,0,none⟩=some (.bool true):=(blk_cell Z20.out 0).trans rfl;have Z83:wc.cell? ⟨Z18,1,none⟩=some (.string a1_1):=(blk_cell Z20.out 1).trans rfl;have Z84:wc.cell? ⟨Z18,2,none⟩=some (.slice A1_2 l1_2.length c1_2):=(blk_cell Z20.out 2).trans rfl;have Z85:=blk_frozen Z20.out 0;have Z86:=blk_frozen Z20.out 1;have Z87:=blk_frozen Z20.out 2
               try go_wp2
               have _:=ra (Kd.S_drew Z46.out);have _:=ra (blk_drew Z16.out);have _:=ra (blk_drew Z20.out);have _:=ra (below_drew1 HB.out);clear Z46 Z16 Z20 HB
               rename_i Z46 Z16 Z20 HB
               obtain ⟨Z88,Z89,Z90⟩:=Kd.S_slice Z46.out
               (first | subst Z90 | (injection Z90 with f1_ f2_ f3_;have Z91:=f1_.symm;have Z92:=f3_.symm;clear f1_ f2_ f3_;subst Z91;subst Z92))
               have Z93:(Z11:Int)≤((Z9.length:Int):Int):=od;obtain ⟨Z94,Z95,_,Z96,_⟩:=info_parts info32;have Z97:Z9.length≤Z89:=(Kd.S_reads' Z46.out).2.1;have Z98:Kd.C k32 _ Z88 Z9.length Z9:=(Kd.S_reads' Z46.out).2.2;have Z99:=cut_to (P:=Tryz.prog) 25 32 .i64 Tryz.underlying25 Z95 Z88 Z9.length Z89 Z11 (od) Z93 Z97;have Z100:=Kd.C_take (m:=(Z11:Int).toNat) Z98 (by omega);have Z101:Z65.length=(Z11:Int).toNat:=(by rw [Z66.out,List.length_take];omega);rw [← Z66.out] at Z100;rw [← Z101] at Z99;have Z102:=ra Z100;have Z103:=ra (show Z65.length≤Z89 from by omega);clear Z100 Z98 Z97 Z95 Z96;have Z104:=ra Z101;clear Z101;have Z105:=ra (show (Z11:Int).toNat≤Z9.length from by omega);replace Z93:=eq_true Z93;have Z106:((Z67):Int)≤((Z9.length:Int):Int):=od;obtain ⟨Z107,Z108,_,Z109,_⟩:=info_parts info32;have Z110:Z9.length≤Z89:=(Kd.S_reads' Z46.out).2.1;have Z111:Kd.C k32 _ Z88 Z9.length Z9:=(Kd.S_reads' Z46.out).2.2;have Z112:(0:Int)≤((Z67):Int):=od
               have Z113:=cut_from (P:=Tryz.prog) 25 32 .i64 Tryz.underlying25 Z108 2 Z109 Z88 Z9.length Z89 (Z67) Z112 Z106;have Z114:=Kd.C_drop (m:=((Z67):Int).toNat) (c:=Z89) Z111 (by omega) Z110;obtain ⟨Z115,Z116⟩:∃ A1,A1=(if Z89=((Z67):Int).toNat then Z88 else (Z88:Option Addr).map (·.add (((Z67):Int).toNat * 2))):=⟨_,rfl⟩;obtain ⟨Z117,Z118⟩:∃ c1,c1=Z89 - ((Z67):Int).toNat:=⟨_,rfl⟩;have Z119:Z76.length=Z9.length - ((Z67):Int).toNat:=(by rw [Z77.out,List.length_drop]<;>omega);rw [show (Z9).drop ((Z67):Int).toNat=Z76 from Z77.out.symm] at Z114;replace Z114:Kd.C k32 _ Z115 Z76.length Z76:=(by rw [Z116];exact Z114);rw [← Z119,← Z116,← Z118] at Z113;have Z120:=ra Z114;have Z121:=ra (show Z76.length≤Z117 from by rw [Z119,Z118];exact Nat.sub_le_sub_right Z110 _);clear Z114 Z111 Z110 Z108 Z109 Z118;have Z122:=ra Z119;have Z123:=ra Z116;clear Z119 Z116;have Z124:=ra (show ((Z67):Int).toNat≤Z9.length from by omega);replace Z106:=eq_true Z106
               obtain ⟨Z125,Z126,Z127,Z128,Z129,Z130,Z131⟩:=Kd.S_form Z46.out (by have hj_:0≤(Z11:Int):=od;have hl_:(Z67:Int)≤(Z9.length:Int):=od;have hh_:(Z11:Int)≤(Z9.length:Int):=od;rw [← Z68] at hl_;unfold wrap64 at hl_;omega)
               (first | cases Z127 | (injection Z127 with ea_ en_ ec_;(first | subst ea_ | (injection ea_ with ea_;subst ea_));subst ec_;clear en_))
               have Z132:=ra Z128;have Z133:=ra Z131;clear Z128 Z129 Z131;refine start_ (n:=10) (S:=fun w'=>True) (ds:=[]) (bl 10 0) (by kernel_rfl) rfl rfl trivial (fun hHeld=>?_);refine with_tabW impl_ProbeHappen.tab11 impl_ProbeHappen.bits11 (fun HT_ HW_=>?_)
               generalize wc.drew=Z134 at Z46 Z16 Z20 HB Z133 Z102 Z120 hHeld ⊢
               refine pu 0 56 (bl 10 1) ?_;refine pu 1 57 (bl 10 3) ?_;refine pu 2 58 (bl 10 7) ?_;refine pu 3 59 (bl 10 15) ?_;refine pu 4 60 (bl 10 31) ?_;refine pu 5 61 (bl 10 63) ?_;refine pu 6 62 (bl 10 127) ?_;refine oe 7 63 (bl 10 255) (fun K hK=>?_);have hj_:0≤(Z11:Int):=od;have hl_:(Z67:Int)≤(Z9.length:Int):=od;have hh_:(Z11:Int)≤(Z9.length:Int):=od;have hb_:=(Kd.S_reads' Z46.out).2.2.2.1;have Z135:(0:Int)≤(Z67:Int):=od;have Z136:=Z104.out;have hk_:(Z67:Int).toNat=Z65.length+1:=(by have hw_:(Z67:Int)=Z11+1:=(by have Z137:=Z135;rw [← Z68] at Z137 ⊢;unfold wrap64 at Z137 ⊢;omega);rw [hw_];omega);refine Kd.S_delete_step k32 (w0:=w) w.heap.size (by rfl) (.tmp 58) (.tmp 62) 25 32 rfl Tryz.underlying25 (by kernel_rfl) (g:=Z125) (n:=Z9.length) (c:=Z89) (k:=Z65.length) rfl rfl ?hA ?hm (by (with_reducible repeat (first | apply Kd.S_alloc | apply Kd.S_drewN | apply Kd.S_drew));exact Z46.out) ?hk bq (below_size bq) ?_
               (case hA=>have ha_:=Z123.out;rw [hk_] at ha_;exact ha_)
               (case hm=>have ha_:=Z122.out;omega)
               (case hk=>omega)
               intro Z138 ho hb hg;clear hj_ hl_ hh_ hb_ hk_ Z135;rw [Z136,← Z79.out] at ho;clear Z136;have hn_:Z9.length - 1=Z78.length:=(by have:=(Kd.S_reads' ho).1;omega);rw [hn_] at ho ⊢;clear hn_;have _:=ra (ho);have _:=ra (blk_grown (g:=Z14) (o := .cells #[.slice A0 l0.length c0] 25 (0,0)) (bk Z16) hg (Kd.S_ne Z46.out Z16.out (by decide)));have _:=ra (blk_grown (g:=Z18) (o := .cells #[.bool true, .string a1_1, .slice A1_2 l1_2.length c1_2] 34 (0,0)) (bk Z20) hg (Kd.S_ne Z46.out Z20.out (by decide)));have _:=ra (hb);clear Z46 Z16 Z20 HB
               rename_i Z46 Z16 Z20 HB
               clear ho hb hg;refine hK.out _ _ trivial (fun hHeld=>?_);clear hK K;refine nm 63 ?_;refine pu 8 4 (bl 10 511) ?_;refine pu 9 5 (bl 10 1023) ?_;refine done_ (done_of HT_.out (by kernel_rfl)) ?_
               try go_wp2
               go_ret2;exact ⟨_,by first | rfl | (simp [errW_none,errW_some]<;>rfl) | (simp only [← Z68];first | rfl | (simp [errW_none,errW_some]<;>rfl)) | (simp [*,errW_none,errW_some]<;>rfl),by (with_reducible repeat (first | apply Kd.S_alloc | apply Kd.S_drewN | apply Kd.S_drew));exact Z46.out,bq⟩
              ·rw [if_neg Z73] at H;exact absurd H (by simp)
             ·rw [if_neg Z70] at H;exact absurd H (by simp)
            ·rw [if_neg Z62] at H;exact absurd H (by simp)
           ·rw [if_neg Z59] at H;exact absurd H (by simp)
          ·rcases ud H with ⟨rfl,Z59⟩ | ⟨rfl,Z59⟩<;>have H:=Z59
           ·obtain ⟨⟨Z60,Z61⟩,Z62,H⟩:=bo H
            try dsimp only at H
            obtain ⟨Z63,H⟩:=tn H;obtain ⟨Z64,H⟩:=tn H;obtain ⟨Z65,hy_⟩:∃ y_:List (S32),y_=(Z9.set (Z11:Int).toNat (⟨Z60,Z61⟩:S32)):=⟨_,rfl⟩;replace H:(some (Z65,0))=some (r1,r2):=yh;have Z66:=ra hy_;clear hy_;simp only [Option.some.injEq,Prod.mk.injEq] at H;obtain ⟨rfl,rfl⟩:=H;have Z67:=Z23.out;have Z68:=Z22.out;have Z69:wc.cell? ⟨Z18,0,none⟩=some (.bool false):=(blk_cell Z20.out 0).trans rfl;have Z70:wc.cell? ⟨Z18,1,none⟩=some (.string a1_1):=(blk_cell Z20.out 1).trans rfl;have Z71:wc.cell? ⟨Z18,2,none⟩=some (.slice A1_2 l1_2.length c1_2):=(blk_cell Z20.out 2).trans rfl;have Z72:=blk_frozen Z20.out 0;have Z73:=blk_frozen Z20.out 1;have Z74:=blk_frozen Z20.out 2
            go_wp2_with (first | ((with_reducible refine gc 44 rfl ?_);refine gm (some 70) Tryz.func44 (impl_copyTube.calls _ _ _ _ _ _ _ (sc Z4) Z5.out Z62.out) ?_;rintro e Z75 ⟨Z76,rfl,Z33,hb⟩;obtain ⟨Z77,Z78,Z79⟩:=Kd.R_slice Z33;subst Z79;refine ⟨_,rfl,?_⟩;have Z80:=ra (Kd.R_lower Z33 (below_size bq));replace Z46:=ra (Kd.S_elder' (by (with_reducible repeat (first | apply Kd.S_alloc | apply Kd.S_drewN | apply Kd.S_drew));exact Z46.out) (Kd.R_base Z33) hb);replace Z16:=bb (bk Z16) hb;replace Z20:=bb (bk Z20) hb;replace HB:=bs hb;clear hb Z33;have Z81:0≤(Z11:Int):=od;have Z82:(Z11:Int)<((Z9.length:Int):Int):=od;obtain ⟨Z83,Z84,Z85,Z86,Z87,Z88,Z89⟩:=Kd.S_form Z46.out (by omega);(first | cases Z85 | (injection Z85 with ea_ en_ ec_;(first | subst ea_ | (injection ea_ with ea_;subst ea_));subst ec_;clear en_));have Z90:=Aside0.mk Z86;have Z91:=Aside0.mk Z89;clear Z86 Z87 Z89;obtain ⟨_,Z92,Z93,Z94,Z95,Z96,_,_⟩:=Kd.S_elem Z46.out z32 (Z11:Int) Z81 Z82;obtain ⟨Z97,rfl,Z98⟩:=k32_openM Z94;have Z99:Z75.cell? ⟨Z83,(Z11:Int).toNat * 2,none⟩=some (.string ((rd_T32 Z9 Z11).f0)):=Z95 0 _ rfl;have Z100:Z75.cell? ⟨Z83,(Z11:Int).toNat * 2+1,none⟩=some (Z97):=Z95 1 _ rfl;have Z101:Z75.frozen? ⟨Z83,(Z11:Int).toNat * 2,none⟩=false:=Z96 0;have Z102:Z75.frozen? ⟨Z83,(Z11:Int).toNat * 2+1,none⟩=false:=Z96 1;clear Z93 Z95 Z96 Z94;replace Z81:=eq_true Z81;replace Z82:=eq_true Z82;have n_:=ra (Kd.S_mono (ok':=(fun k_=>some k_≠((.slice Z77 Z61.length Z78:Value):Value).ownBlock)) Z46.out (fun k_ hk=>hk.2));clear Z46;have Z46:=n_;clear n_;have Z103:=ra (show Kd.S k32 32 Z75 w.heap.size (fun k_=>((fun _=>True)) k_∧¬ ((fun k_=>some k_=((.slice Z77 Z61.length Z78:Value):Value).ownBlock)) k_) (.slice (some ⟨Z83,0,none⟩) Z9.length Z84) Z9 from (by (with_reducible repeat (first | apply Kd.S_alloc | apply Kd.S_drewN | apply Kd.S_drew));exact Kd.S_mono Z46.out (fun k_ hk=>⟨trivial,fun e_=>hk e_⟩)));obtain ⟨Z104,Z105,Z106,Z107,Z108,Z109,Z110,Z111⟩:=Kd.S_elem Z103.out z32 (Z11:Int) (od) (by have h_:(Z11:Int)<((Z9.length:Int):Int):=od;first | exact h_ | (have e_:=(Kd.S_reads' Z46.out).1;omega) | simpa using h_);obtain ⟨Z112,rfl,Z113⟩:=k32_openM Z107;have Z114:=Kd.S_seg Z111 (od) (by have h_:(Z11:Int)<((Z9.length:Int):Int):=od;first | exact h_ | (have e_:=(Kd.S_reads' Z46.out).1;omega) | simpa using h_) (seg:=[.string Z60,(.slice Z77 Z61.length Z78:Value)]) (j:=0) (show 2≤2 from by decide) (x':=(⟨Z60,Z61⟩:S32)) (k32_mkM _ _ _ (⟨Z60,Z61⟩:S32) (Kd.R_mono (Kd.R_tight rfl (Kd.R_mono (ok':=fun k_=>((fun _=>True)) k_∧k_≠Z83) (Kd.R_apart' (Z80.out) (Kd.S_typed Z46.out) (by decide)) (fun k_ hk=>⟨trivial,fun e_=>(hk.2) (by rw [e_];rfl)⟩))) (fun _ h_=>Or.inr (h_)))) (fun _ hk=>hk) (fun k_ hk_=>((Kd.R_mono (ok':=fun k_=>((fun _=>True)) k_∧k_≠Z83) (Kd.R_apart' (Z80.out) (Kd.S_typed Z46.out) (by decide)) (fun k_ hk=>⟨trivial,fun e_=>(hk.2) (by rw [e_];rfl)⟩))).1 k_ hk_.symm);have Z115:=Z108 0 _ rfl;(try simp only [show (k32).sz=2 from rfl,Nat.mul_one,Nat.add_zero] at Z115);have Z116:=Z109 0;(try simp only [show (k32).sz=2 from rfl,Nat.mul_one,Nat.add_zero] at Z116);have Z117:=Z108 1 _ rfl;(try simp only [show (k32).sz=2 from rfl,Nat.mul_one,Nat.add_zero] at Z117);have Z118:=Z109 1;(try simp only [show (k32).sz=2 from rfl,Nat.mul_one,Nat.add_zero] at Z118);clear Z106 Z108 Z109 Z107 Z110 Z111) | ((with_reducible refine gate_store (t:=32) (p:=71) rfl ?_);refine store_event (t:=32) (p:=71) (v:=?vo_w61) (w1:=((Z75.setCell ⟨Z83,(Z11:Int).toNat * 2,none⟩ (.string Z60)).setCell ⟨Z83,(Z11:Int).toNat * 2+1,none⟩ ((.slice Z77 Z61.length Z78:Value)))) ?hg ?ho ?hn ?hr ?_;(case ho=>rfl);(case hg=>rfl);(case hn=>rfl);(case hr=>first | (go_simp;done) | (go_simp;rfl));intro Z119 hw;have hg:Z75.grownBy Z119 (some Z83):=(by rw [hw];exact Z114.2);have hp_:Kd.S k32 32 Z119 w.heap.size (fun _=>True) (.slice (some ⟨Z83,0,none⟩) Z9.length Z84) Z65:=(by rw [hw,Z66.out];exact Z114.1);clear Z114;have _:=ra (hp_);have _:=ra (blk_grown (g:=Z14) (o := .cells #[.slice A0 l0.length c0] 25 (0,0)) (bk Z16) hg (Kd.S_ne Z46.out Z16.out (by decide)));have _:=ra (blk_grown (g:=Z18) (o := .cells #[.bool false, .string a1_1, .slice A1_2 l1_2.length c1_2] 34 (0,0)) (bk Z20) hg (Kd.S_ne Z46.out Z20.out (by decide)));have _:=ra ((by rw [hw];exact below_set (below_set (HB.out) Z90.out) Z90.out:Below w.heap.size w Z119));clear Z46 Z16 Z20 HB Z80;rename_i Z46 Z16 Z20 HB;clear hg hw hp_))
            go_ret2;exact ⟨_,re,by (with_reducible repeat (first | apply Kd.S_alloc | apply Kd.S_drewN | apply Kd.S_drew));exact Z46.out,bq⟩
           ·rcases ed H with ⟨-,Z60,Z61,H⟩ | ⟨Z62,Z60,Z61,H⟩
            ·simp only [Option.some.injEq,Prod.mk.injEq] at H;obtain ⟨rfl,rfl⟩:=H;have Z63:=Z23.out;have Z64:=Z22.out;have Z65:wc.cell? ⟨Z18,0,none⟩=some (.bool false):=(blk_cell Z20.out 0).trans rfl;have Z66:wc.cell? ⟨Z18,1,none⟩=some (.string a1_1):=(blk_cell Z20.out 1).trans rfl;have Z67:wc.cell? ⟨Z18,2,none⟩=some (.slice A1_2 l1_2.length c1_2):=(blk_cell Z20.out 2).trans rfl;have Z68:=blk_frozen Z20.out 0;have Z69:=blk_frozen Z20.out 1;have Z70:=blk_frozen Z20.out 2;obtain ⟨Z71,Z72⟩:=zc1 Z16;go_wp2;go_ret2;exact ⟨_,re,by (with_reducible repeat (first | apply Kd.S_alloc | apply Kd.S_drewN | apply Kd.S_drew));exact Z46.out,bq⟩
            ·obtain ⟨⟨Z63,Z64⟩,Z65,H⟩:=bo H
             try dsimp only at H
             by_cases Z66:0≤Z11
             ·rw [if_pos Z66] at H;by_cases Z67:Z11≤(Z9.length:Int)
              ·rw [if_pos Z67] at H
               have hsmall:Z9.length≤1000:=by
                by_cases h:Z9.length≤1000
                ·exact h
                ·rw [if_neg h] at H;cases H
               rw [if_pos hsmall] at H;have HSM:=ra hsmall;clear hsmall;simp only [Option.some.injEq,Prod.mk.injEq] at H;obtain ⟨rfl,rfl⟩:=H;obtain ⟨n,hn⟩:∃ n:Nat,Z11=(n:Int):=⟨Z11.toNat,(Int.toNat_of_nonneg Z66).symm⟩;subst hn;have hnl:n≤Z9.length:=by omega
               have Z68:=eq_true Z66;have Z69:=eq_true Z67;clear Z66 Z67;have Z70:=Z23.out;have Z71:=Z22.out;have Z72:wc.cell? ⟨Z18,0,none⟩=some (.bool false):=(blk_cell Z20.out 0).trans rfl;have Z73:wc.cell? ⟨Z18,1,none⟩=some (.string a1_1):=(blk_cell Z20.out 1).trans rfl;have Z74:wc.cell? ⟨Z18,2,none⟩=some (.slice A1_2 l1_2.length c1_2):=(blk_cell Z20.out 2).trans rfl;have Z75:wc.cell? ⟨Z14,0,none⟩=some (.slice A0 l0.length c0):=(blk_cell Z16.out 0).trans rfl;have Z76:=blk_frozen Z20.out 0;have Z77:=blk_frozen Z20.out 1;have Z78:=blk_frozen Z20.out 2;have Z79:=blk_frozen Z16.out 0
               try go_wp2
               have Z80:=ra (Kd.S_drew Z46.out);have Z81:=ra (blk_drew Z20.out);have Z82:=ra (below_drew1 HB.out);clear Z46 Z16 Z20 HB;have Z46:=Z80;have Z20:=Z81;have HB:=Z82;clear Z80 Z81 Z82;obtain ⟨Z83,Z84,Z85⟩:=Kd.S_slice Z46.out;subst Z85;have hroom:=(Kd.S_reads' Z46.out).2.1;obtain ⟨Z86,Z87,Z88,Z89,Z90⟩:=info_parts info32;have hcut:=cut_from (P:=Tryz.prog) 25 32 .i64 Tryz.underlying25 Z87 2 Z89 Z83 Z9.length Z84 (n:Int) (by omega) (by omega);rw [Int.toNat_natCast] at hcut;obtain ⟨Z91,Z92⟩:∃ A1,A1=(if Z84=n then Z83 else Z83.map (·.add (n * 2))):=⟨_,rfl⟩;rw [← Z92] at hcut;have Z93:=ra Z92;clear Z92;have HR_:=ra hroom;have HL_:=ra hnl;clear hroom hnl
               refine start_ (n:=9) (S:=fun w'=>w'.cell? ⟨Z18,1,none⟩=some (.string a1_1)∧w'.cell? ⟨Z18,2,none⟩=some (.slice A1_2 l1_2.length c1_2)) (ds:=[]) (bl 9 0) (by kernel_rfl) rfl rfl ⟨(blk_cell Z20.out 1).trans rfl,(blk_cell Z20.out 2).trans rfl⟩ (fun hHeld=>?_);refine with_tabW impl_ProbeHappen.tab17 impl_ProbeHappen.bits17 (fun HT_ HW_=>?_)
               generalize wc.drew=Z94 at Z46 Z20 HB hHeld ⊢
               refine pu 0 78 (bl 9 1) ?_;refine tk 1 79 (bl 9 3) ?_ hHeld;refine pu 4 82 (bl 9 19) ?_;refine pu 5 83 (bl 9 51) ?_;refine pu 6 84 (bl 9 115) ?_;refine oe 2 80 (bl 9 119) (fun K hK=>?_);refine gs Tryz.func44 #[.agg #[.string a1_1, .slice A1_2 l1_2.length c1_2]] ?_
               with_reducible refine (impl_copyTube.calls a1_1 _ _ l1_2 Z63 Z64 _ ?side1 ?side2 Z65.out).mono ?_
               (case side1=>exact sc Z4)
               (case side2=>exact Z5.out)
               rintro e Z95 ⟨Z96,rfl,Z33,hb⟩
               refine ⟨_,rfl,?_⟩;obtain ⟨Z97,Z98,Z99⟩:=Kd.R_slice Z33;subst Z99;have Z100:=ra Z33;have Z101:=ra hb;have Z80:=bb (o := .cells #[.bool false, .string a1_1, .slice A1_2 l1_2.length c1_2] 34 (0,0)) Z20.out hb;clear Z20;have Z20:=Z80;clear Z80 Z33 hb;refine hK.out _ _ ⟨(blk_cell Z20.out 1).trans rfl,(blk_cell Z20.out 2).trans rfl⟩ (fun hHeld=>?_);clear hK K;refine nm 80 ?_;refine oe 3 81 (bl 9 127) (fun K hK=>?_)
               refine Kd.R_lit_step (Kd.raw 2) _ 32 ?hg (N:=81) ?hd (xs:=[[.string Z63, .slice Z97 Z64.length Z98]]) (inner:=[.string Z63, .slice Z97 Z64.length Z98]) (ok:=fun _=>True) (okp:=fun _=>True) ?hr ?hp (fun _ hk=>hk) trivial (Below.refl _ _) (Nat.le_refl _) (by simp) ?_;(case hd=>rfl);(case hg=>rfl);(case hr=>first | (go_simp;done) | (go_simp;rfl));(case hp=>exact Reps.snoc (ps:=[]) (cs:=[]) (Reps.none _ _) (show Kd.M (Kd.raw 2) _ _ _ [.string Z63, .slice Z97 Z64.length Z98] [.string Z63, .slice Z97 Z64.length Z98] from ⟨rfl,rfl,fun u hu=>by simp only [List.mem_cons,List.not_mem_nil,or_false] at hu;rcases hu with rfl | rfl<;>rfl⟩) rfl);intro Z102 Z103 Z104 hb Z105 hnew_;have Z106:=ra Z104;have Z107:=ra Z105;have Z108:=ra hnew_;have Z109:=ra hb;have Z80:=bb (o := .cells #[.bool false, .string a1_1, .slice A1_2 l1_2.length c1_2] 34 (0,0)) Z20.out hb;clear Z20;have Z20:=Z80;clear Z80 Z104 hb Z105 hnew_
               refine hK.out _ _ ⟨(blk_cell Z20.out 1).trans rfl,(blk_cell Z20.out 2).trans rfl⟩ (fun hHeld=>?_);clear hK K;refine nm 81 ?_;obtain ⟨Z110,Z111,Z112,Z113,Z114⟩:=Z46.out;rw [List.length_zipIdx] at Z113;have Z115:=Z114.1;rw [List.length_zipIdx] at Z115;have Z116:∀ k,k<Z94.heap.size→Z103.heap[k]? = Z94.heap[k]? := fun k hk=>(Z109.out.block k (Nat.lt_of_lt_of_le hk Z101.out.size)).trans (Z101.out.block k hk);have Z117:=ra Z116;clear Z116;obtain ⟨news,hnews⟩:∃ ns:List (List Value),ns=(List.range (Z9.length - n)).map fun j=>(Z112.drop ((n+j) * 2)).take 2:=⟨_,rfl⟩;have HNW:=ra hnews;clear hnews;have Z118:=ra Z113;have Z119:=ra Z114;have Z120:=ra Z115;clear Z111 Z113 Z114 Z115;refine oe 7 85 (bl 9 255) (fun K hK=>?_)
               refine Kd.R_append_rows_step (Kd.raw 2) (w0:=Z95) Z95.heap.size (by rfl) (.tmp 81) (.tmp 84) 25 32 (.agg #[.string ⟨#[]⟩, .slice none 0 0]) 40 rfl Tryz.underlying25 info32 rfl (by decide) (by omega) Z102 [[.string Z63, .slice Z97 Z64.length Z98]] news _ _ _ (fun _=>True) (fun _=>False) rfl rfl ?aO ?aR (fun _ _ h=>h) (fun _ h=>h.elim) ?aF ?aB ?aS ?aL ?_
               (case aO=>exact Z106.out)
               (case aF=>exact (fun _ _=>trivial))
               (case aB=>exact Z109.out)
               (case aS=>exact Z109.out.size)
               (case aL=>have:=HSM.out;simp only [List.length_cons,List.length_nil];omega)
               (case aR=>rw [HNW.out,Z93.out];exact Z.tail_reads Z118.out Z117.out (Z.reps_one (show 0<2 from by decide) Z119.out) HL_.out HSM.out)
               intro Z121 Z122 Z123 Z124 Z125 Z126;have Z127:=ra Z123;have Z128:=ra Z125;have Z129:=ra Z124;clear Z123 Z124 Z125 Z126;have Z80:=ra (blk_grown (g:=Z18) (o := .cells #[.bool false, .string a1_1, .slice A1_2 l1_2.length c1_2] 34 (0,0)) Z20.out Z128.out (Kd.R_ne Z106.out Z20.out (by decide)));clear Z20;have Z20:=Z80;clear Z80;refine hK.out _ _ ⟨(blk_cell Z20.out 1).trans rfl,(blk_cell Z20.out 2).trans rfl⟩ (fun hHeld=>?_);clear hK K;refine nm 85 ?_;refine pu 8 9 (bl 9 511) ?_;refine done_ (done_of HT_.out (by kernel_rfl)) ?_;obtain ⟨Z130,Z131,Z132,_,_,_⟩:=Kd.R_form Z127.out (by simp);subst Z132;obtain ⟨_,Z133,Z134,Z135⟩:=Z127.out
               have Z136:∀ k,k<Z94.heap.size→Z122.heap[k]? = Z94.heap[k]? := fun k hk=>(Z128.out.block k (Nat.lt_of_lt_of_le (Nat.lt_of_lt_of_le hk Z101.out.size) Z109.out.size) (fun he=>by
                obtain ⟨b,hb,hle⟩:=Z108.out;rw [hb] at he
                injection he with he
                have:=Z101.out.size
                omega)).trans (Z117.out k hk)
               have Z137:=ra Z136;clear Z136;have Z138:=ra Z134;have Z139:=ra Z135;clear Z134 Z135;have hmax:=Z.cut_max (P:=Tryz.prog) 25 32 .i64 .i64 Tryz.underlying25 Z87 Z83 Z9.length Z84 n (Nat.le_trans HL_.out HR_.out)
               have Z140:n+(([[.string Z63, .slice Z97 Z64.length Z98]]:List (List Value))++news).length=Z9.length+1:=by
                have:=HL_.out;rw [HNW.out,List.length_append,List.length_map,List.length_range,List.length_singleton];omega
               have HLN:=ra Z140;clear Z140
               go_wp2_with (first | ((with_reducible refine gate_builtin (b := .append) (xs:=#[.tmp 89, .tmp 90]) rfl ?_);at_builtin;refine wpList_append_grows Z122 rfl (.tmp 89) (.tmp 90) 25 rfl 32 Z86 (.agg #[.string ⟨#[]⟩, .slice none 0 0]) 2 40 Tryz.underlying25 Z87 Z88 Z89 Z90 rfl (by decide) Z83 n n (Z112.take (n * 2)) rfl ?hnone ?hlo ?holds ⟨Z130,0,none⟩ _ _ Z133 rfl ?hn ?hc ?h1c ?hfull ?b1 ?b2 ?_;(case hnone=>exact Z.own_none Z118.out HL_.out);(case hlo=>have:=HL_.out;have Z141:Z112.length=Z9.length * 2:=Z120.out;rw [List.length_take];omega);(case holds=>exact Z.own_holds Z118.out Z137.out);(case hn=>exact Z139.out.1);(case hc=>exact Z138.out.cells rfl);(case h1c=>exact Z.reps_one (show 0<2 from by decide) Z139.out);(case hfull=>simp only [List.length_append,List.length_singleton];omega);(case b1=>have:=HLN.out;have:=HSM.out;unfold maxLen;omega);(case b2=>have:=HLN.out;have:=HSM.out;omega);intro Z142 Z143 hown hgrow;have Z144:=Aside0.mk hown;have Z145:=Aside0.mk hgrow;clear hown hgrow))
               go_ret2;have Z146:=Z101.out.size;have Z147:=Z109.out.size;have Z148:=Z128.out.size;have Z149:∀ k,k<Z122.heap.size→Z143.heap[k]? = Z122.heap[k]? := fun k hk=>Z145.out.block k hk (by simp);have hown:=Z144.out;rw [HLN.out] at hown;refine ⟨_,rfl,?_,Below.grown (below_step (below_step HB.out Z101.out) Z129.out) Z145.out (Nat.le_trans HB.out.size (Nat.le_trans Z146 Z129.out.size)) (fun k hk=>by simp at hk)⟩
               ·refine Z.S_insert (d:=k32) (W:=Z94) (W2:=Z95) (f:=Z110) (inner:=Z112) (in85:=Z133) (c:=[.string Z63, .slice Z97 Z64.length Z98]) (N:=Z122.heap.size) HL_.out Z120.out (fun j p hj=>k32.M_mono (fun _ hk=>hk.2) (Z119.out.2 j (p,j) (Kd.zip_at hj))) (k32_mkM _ _ _ (⟨Z63,Z64⟩:S32) Z100.out) (fun k hk=>(Z149 k (by omega)).trans (Z137.out k hk)) (fun k hk=>(Z149 k (by omega)).trans (Z129.out.block k hk)) Z146 Z129.out.size HB.out.size hown ?_ ?_ ?_
                ·have h:=Z139.out.1;rw [HNW.out,List.length_append,List.length_map,List.length_range,List.length_singleton] at h;exact h
                ·exact (Z139.out.2 0 _ rfl).1
                ·intro j hj;refine (Z139.out.2 (j+1) ((Z112.drop ((n+j) * 2)).take 2) ?_).1;rw [HNW.out,List.singleton_append,List.getElem?_cons_succ,List.getElem?_map,List.getElem?_range hj];rfl
              ·rw [if_neg Z67] at H;exact absurd H (by simp)
             ·rw [if_neg Z66] at H;exact absurd H (by simp)
 ·simp only [Option.some.injEq,Prod.mk.injEq] at H;obtain ⟨rfl,rfl⟩:=H
  go_enter Tryz.func7,Tryz.ntmps7
  go_wp2_with (first | ((with_reducible refine gd 2 rfl ?_);refine bd 2 #[.slice A0 l0.length c0] 25 ?_;intro Z9 Z10 HB Z11 Z12) | ((with_reducible refine gd 3 rfl ?_);refine bf 3 #[.bool a1_0, .string a1_1, .slice A1_2 l1_2.length c1_2] 34 ?_;intro Z13 Z14 hg hb HB Z15 Z16;have Z17:=bn hg (bk Z11);have Z18:=bm hg (bk Z11);replace Z11:=bb (bk Z11) hb;have Z19:=Z17.out;have Z20:=Z18.out;obtain ⟨Z21,Z22⟩:=zc1 Z11;clear hg hb) | ((with_reducible refine gc 11 rfl ?_);refine gy (some 11) Tryz.func11 (impl_ProbeSkyOk.calls _ _ _ _ _ _ (sc Z2) Z3.out Z7.out) ?_;rintro Z23 hb;replace Z11:=bb (bk Z11) hb;replace Z15:=bb (bk Z15) hb;replace HB:=bs hb;clear hb))
  go_ret2;exact ⟨_,re,by first | exact Kd.S_nil _ _ _ _ _ | exact Kd.N_nil _ _ _ _ _ | exact Kd.V_nil _ _ _ _ _ | exact Kd.Q_nil _ _ _ _ _ | exact Kd.R_nil _ _ _ _ _,bq⟩
attribute [local go_sem high] eqA91
theorem laws_wClashes.calls (k:Nat) (A0:Option Addr) (c0:Nat) (l0:List (S91)) (A1:Option Addr) (c1:Nat) (l1:List (S91)) (r:Bool) (w:World) (hr0:Kd.C k91 w A0 l0.length l0) (hc0:l0.length≤c0) (hr1:Kd.C k91 w A1 l1.length l1) (hc1:l1.length≤c1) (h:laws_wClashes.f k l0 l1=some r) :
  Calls Tryz.prog 13 #[.slice A0 l0.length c0, .slice A1 l1.length c1] w fun e w'=>e = .returned (.bool r)∧Drawn0 w w':=by
 have Z0:=Tryz.underlying91;have Z1:=ra hr0;have Z2:=ra hc0;clear hr0 hc0;have Z3:=ra hr1;have Z4:=ra hc1;clear hr1 hc1;have H:=h;unfold laws_wClashes.f at H;clear h
 rcases ed H with ⟨Z5,Z6,Z7,H⟩ | ⟨Z5,Z6,Z7,H⟩
 ·have Z8:(l0.length==l1.length)=true:=by first | simpa using Z5 | (simp at Z5 ⊢;omega)
  clear Z5;have H':=ra H;clear H
  go_enter Tryz.func13,Tryz.ntmps13
  go_wp2
  repeat (go_quiet (fail);try go_wp2)
  go_loopg [5] k (fun kq v5 w'=>∃ (x5_1:Int),v5 = .int .i64 x5_1∧Aside0 (laws_wClashes.l0 kq l0 l1 x5_1=some r)∧Aside0 (kq≤k)∧Drawn0 w w')
  case atStart=>exact ⟨_,rs,H',⟨Nat.le_refl _⟩,d0⟩
  case round =>
   clear H'
   try clear c1
   try clear Z5
   try clear Z6
   try clear Z7
   try clear Z8
   obtain ⟨Z9,rfl,HA,Z10,⟨Z11,rfl⟩⟩:=hrel
   cases gk with
   | zero=>exact absurd HA.out (by simp [laws_wClashes.l0])
   | succ Z12 =>
    have H:=HA.out;clear HA;simp only [laws_wClashes.l0] at H
    rcases td H with ⟨Z13,H⟩ | ⟨Z13,H⟩
    ·obtain ⟨Z14,H⟩:=tn H;obtain ⟨Z15,H⟩:=tn H;by_cases Z16:(!((((rd_T91 l0 Z9).f0).toList)==(((rd_T91 l1 Z9).f0).toList)) || (!((((rd_T91 l0 Z9).f1).toList)==(((rd_T91 l1 Z9).f1).toList)) || (!(((rd_T91 l0 Z9).f2)==((rd_T91 l1 Z9).f2)) || (!(((rd_T91 l0 Z9).f3)==((rd_T91 l1 Z9).f3)) || (!(((rd_T91 l0 Z9).f4)==((rd_T91 l1 Z9).f4)))))))=true
     ·rw [if_pos Z16] at H;have Z17:(!((((rd_T91 l0 Z9).f0).toList)==(((rd_T91 l1 Z9).f0).toList)) || (!((((rd_T91 l0 Z9).f1).toList)==(((rd_T91 l1 Z9).f1).toList)) || (!(((rd_T91 l0 Z9).f2)==((rd_T91 l1 Z9).f2)) || (!(((rd_T91 l0 Z9).f3)==((rd_T91 l1 Z9).f3)) || (!(((rd_T91 l0 Z9).f4)==((rd_T91 l1 Z9).f4)))))))=true:=Z16;clear Z16;obtain rfl:=Option.some.inj H;have Z18:0≤(Z9:Int):=od;have Z19:Z9<(l0.length:Int):=od;obtain ⟨Z20,Z21,Z22,Z23,Z24,Z25,Z26⟩:=at_T91 Z1.out Z9 Z18 Z19;cases Z21
      replace Z18:=eq_true Z18;replace Z19:=eq_true Z19;have Z27:0≤(Z9:Int):=od;have Z28:Z9<(l1.length:Int):=od;obtain ⟨Z29,Z30,Z31,Z32,Z33,Z34,Z35⟩:=at_T91 Z3.out Z9 Z27 Z28;cases Z30
      replace Z27:=eq_true Z27;replace Z28:=eq_true Z28;go_wp2
      repeat (go_quiet (fail);try go_wp2)
      go_ret
      exact ⟨rs,d0⟩
     ·rw [if_neg Z16] at H;have Z17:(!((((rd_T91 l0 Z9).f0).toList)==(((rd_T91 l1 Z9).f0).toList)) || (!((((rd_T91 l0 Z9).f1).toList)==(((rd_T91 l1 Z9).f1).toList)) || (!(((rd_T91 l0 Z9).f2)==((rd_T91 l1 Z9).f2)) || (!(((rd_T91 l0 Z9).f3)==((rd_T91 l1 Z9).f3)) || (!(((rd_T91 l0 Z9).f4)==((rd_T91 l1 Z9).f4)))))))=false:=by simpa using Z16
      clear Z16;have H':=ra H;clear H;have Z18:0≤(Z9:Int):=od;have Z19:Z9<(l0.length:Int):=od;obtain ⟨Z20,Z21,Z22,Z23,Z24,Z25,Z26⟩:=at_T91 Z1.out Z9 Z18 Z19;cases Z21
      replace Z18:=eq_true Z18;replace Z19:=eq_true Z19;have Z27:0≤(Z9:Int):=od;have Z28:Z9<(l1.length:Int):=od;obtain ⟨Z29,Z30,Z31,Z32,Z33,Z34,Z35⟩:=at_T91 Z3.out Z9 Z27 Z28;cases Z30
      replace Z27:=eq_true Z27;replace Z28:=eq_true Z28;go_wp2
      repeat (go_quiet (fail);try go_wp2)
      go_roundg Z12
      case measure=>have:=Z10.out;omega
      case rel=>exact ⟨_,rs,H',⟨by have:=Z10.out;omega⟩,d0⟩
    ·obtain rfl:=Option.some.inj H;go_wp2
     repeat (go_quiet (fail);try go_wp2)
     go_ret
     exact ⟨rs,d0⟩
 ·have Z8:(l0.length==l1.length)=false:=by first | simpa using Z5 | (simp at Z5 ⊢;omega)
  obtain rfl:=Option.some.inj H
  go_enter Tryz.func13,Tryz.ntmps13
  go_wp2
  repeat (go_quiet (fail);try go_wp2)
  go_ret
  exact ⟨rs,d0⟩
end Go.Proofs.YtgklmafdbgnohaaGreat.PA
end
section
namespace Go.Proofs.YtgklmafdbgnohaaGreat.PA
open Go.RowKit Go.Proofs.YtgklmafdbgnohaaGreatW.PrintWords Go.Proofs.YtgklmafdbgnohaaGreatW.PrintLast Go.Proofs.YtgklmafdbgnohaaGreatW.PrintMore Go.Proofs.YtgklmafdbgnohaaGreat.Z
attribute [local go_sem] max2_int min2_int max_two min_two max_three min_three max_four min_four
set_option maxHeartbeats 8000000
set_option maxRecDepth 100000
attribute [local go_sem high] eqA75
theorem laws_wTube.calls (k:Nat) (a0_0:ByteArray) (A0_1:Option Addr) (c0_1:Nat) (l0_1:List (S75)) (a1_0:ByteArray) (A1_1:Option Addr) (c1_1:Nat) (l1_1:List (S75)) (r:Bool) (w:World) (hr0_1:Kd.C k75 w A0_1 l0_1.length l0_1) (hc0_1:l0_1.length≤c0_1) (hr1_1:Kd.C k75 w A1_1 l1_1.length l1_1) (hc1_1:l1_1.length≤c1_1) (h:laws_wTube.f k a0_0 l0_1 a1_0 l1_1=some r) :
  Calls Tryz.prog 48 #[.agg #[.string a0_0, .slice A0_1 l0_1.length c0_1], .agg #[.string a1_0, .slice A1_1 l1_1.length c1_1]] w fun e w'=>e = .returned (.bool r)∧Below w.heap.size w w':=by
 have Z0:=Tryz.underlying32;have Z1:=Tryz.underlying75;have Z2:=ra hr0_1;have Z3:=ra hc0_1;clear hr0_1 hc0_1;have Z4:=ra hr1_1;have Z5:=ra hc1_1;clear hr1_1 hc1_1;have HB:=ra (Below.refl w.heap.size w);have H:=h;unfold laws_wTube.f at H;clear h;have Z6:=ra H;clear H
 go_enter Tryz.func48,Tryz.ntmps48
 go_upto_region 1 with (first | ((with_reducible refine gd 2 rfl ?_);(try (refine gate_guard (by rfl) ?_;dsimp only));refine bd 2 #[.string a0_0, .slice A0_1 l0_1.length c0_1] 32 ?_;intro Z7 Z8 HB Z9 Z10) | ((with_reducible refine gd 3 rfl ?_);(try (refine gate_guard (by rfl) ?_;dsimp only));refine bf 3 #[.string a1_0, .slice A1_1 l1_1.length c1_1] 32 ?_;intro Z11 Z12 hg hb HB Z13 Z14;have Z15:=bn hg (bk Z9);have Z16:=bm hg (bk Z9);replace Z9:=bb (bk Z9) hb;clear hg hb))
 repeat (go_quiet (first | ((with_reducible refine gd 2 rfl ?_);(try (refine gate_guard (by rfl) ?_;dsimp only));refine bd 2 #[.string a0_0, .slice A0_1 l0_1.length c0_1] 32 ?_;intro Z7 Z8 HB Z9 Z10) | ((with_reducible refine gd 3 rfl ?_);(try (refine gate_guard (by rfl) ?_;dsimp only));refine bf 3 #[.string a1_0, .slice A1_1 l1_1.length c1_1] 32 ?_;intro Z11 Z12 hg hb HB Z13 Z14;have Z15:=bn hg (bk Z9);have Z16:=bm hg (bk Z9);replace Z9:=bb (bk Z9) hb;clear hg hb));go_upto_region 1 with (first | ((with_reducible refine gd 2 rfl ?_);(try (refine gate_guard (by rfl) ?_;dsimp only));refine bd 2 #[.string a0_0, .slice A0_1 l0_1.length c0_1] 32 ?_;intro Z7 Z8 HB Z9 Z10) | ((with_reducible refine gd 3 rfl ?_);(try (refine gate_guard (by rfl) ?_;dsimp only));refine bf 3 #[.string a1_0, .slice A1_1 l1_1.length c1_1] 32 ?_;intro Z11 Z12 hg hb HB Z13 Z14;have Z15:=bn hg (bk Z9);have Z16:=bm hg (bk Z9);replace Z9:=bb (bk Z9) hb;clear hg hb)))
 (try simp only [Act.put,List.setIfInBounds_toArray,List.set_cons_zero,List.set_cons_succ])
 go_cut [19] (fun v19 wc=>∃ (kq:Nat) (x19_2:Bool),v19 = .bool x19_2∧Aside0 (laws_wTube.j0 kq x19_2 a0_0 l0_1 a1_0 l1_1=some r)∧Aside0 (kq≤k)∧Aside0 (wc.heap[Z7]? = some (.cells #[.string a0_0,(.slice A0_1 l0_1.length c0_1)] 32 (0,0)))∧Aside0 (wc.heap[Z11]? = some (.cells #[.string a1_0,(.slice A1_1 l1_1.length c1_1)] 32 (0,0)))∧Aside0 (Below w.heap.size w wc))
 case first =>
  have H:=Z6.out;clear Z6
  rcases ed H with ⟨-,Z17,Z18,H⟩ | ⟨Z19,Z17,Z18,H⟩
  rotate_left;rotate_left
  all_goals
   (first | rw [Z17] | (simp only [i64_w,i32_w];rw [Z17]) | skip)
   have H':=ra H;clear H;have Z20:=Z15.out;have Z21:=Z16.out;obtain ⟨Z22,Z23,Z24,Z25⟩:=zc2 Z9;obtain ⟨Z26,Z27,Z28,Z29⟩:=zc2 Z13;go_wp2
   repeat (go_quiet (fail);try go_wp2)
   go_meet
   case rel=>exact ⟨_,_,rs,H',⟨by first | omega | exact Nat.le_refl _⟩,⟨bk Z9⟩,⟨bk Z13⟩,⟨bq⟩⟩
 case rest =>
  clear Z6;obtain ⟨kq,Z17,rfl,HA,Z18,Z9,Z13,HB⟩:=hcut
  cases kq with
  | zero=>exact absurd HA.out (by simp [laws_wTube.j0])
  | succ Z19 =>
   have H:=HA.out;clear HA;simp only [laws_wTube.j0] at H
   rcases ud H with ⟨rfl,Z20⟩ | ⟨rfl,Z20⟩<;>have H:=Z20
   ·obtain rfl:=Option.some.inj H;go_wp2
    repeat (go_quiet (fail);try go_wp2)
    go_ret
    exact ⟨re,bq⟩
   ·have H':=ra H;clear H;go_wp2
    repeat (go_quiet (fail);try go_wp2)
    go_loopg [5] Z19 (fun kq v5 w'=>∃ (x5_2:Int),v5 = .int .i64 x5_2∧Aside0 (laws_wTube.l0 kq x5_2 a0_0 l0_1 a1_0 l1_1=some r)∧Aside0 (kq≤Z19)∧Aside0 (w'.heap[Z7]? = some (.cells #[.string a0_0,(.slice A0_1 l0_1.length c0_1)] 32 (0,0)))∧Aside0 (w'.heap[Z11]? = some (.cells #[.string a1_0,(.slice A1_1 l1_1.length c1_1)] 32 (0,0)))∧Aside0 (Below w.heap.size w w'))
    case atStart=>exact ⟨_,rs,H',⟨Nat.le_refl _⟩,⟨bk Z9⟩,⟨bk Z13⟩,⟨bq⟩⟩
    case round =>
     clear H';obtain ⟨Z21,rfl,HA,Z22,Z9,Z13,HB⟩:=hrel
     cases gk with
     | zero=>exact absurd HA.out (by simp [laws_wTube.l0])
     | succ Z23 =>
      have H:=HA.out;clear HA;simp only [laws_wTube.l0] at H
      rcases td H with ⟨Z24,H⟩ | ⟨Z24,H⟩
      ·obtain ⟨Z25,H⟩:=tn H;obtain ⟨Z26,H⟩:=tn H;by_cases Z27:(!(((rd_T75 l0_1 Z21).f0)==((rd_T75 l1_1 Z21).f0)) || (!(((rd_T75 l0_1 Z21).f1)==((rd_T75 l1_1 Z21).f1)) || (!(((rd_T75 l0_1 Z21).f2)==((rd_T75 l1_1 Z21).f2)) || (!(((rd_T75 l0_1 Z21).f3)==((rd_T75 l1_1 Z21).f3)) || (!(((rd_T75 l0_1 Z21).f4)==((rd_T75 l1_1 Z21).f4)) || (!(((rd_T75 l0_1 Z21).f5)==((rd_T75 l1_1 Z21).f5))))))))=true
       ·rw [if_pos Z27] at H;have Z28:(!(((rd_T75 l0_1 Z21).f0)==((rd_T75 l1_1 Z21).f0)) || (!(((rd_T75 l0_1 Z21).f1)==((rd_T75 l1_1 Z21).f1)) || (!(((rd_T75 l0_1 Z21).f2)==((rd_T75 l1_1 Z21).f2)) || (!(((rd_T75 l0_1 Z21).f3)==((rd_T75 l1_1 Z21).f3)) || (!(((rd_T75 l0_1 Z21).f4)==((rd_T75 l1_1 Z21).f4)) || (!(((rd_T75 l0_1 Z21).f5)==((rd_T75 l1_1 Z21).f5))))))))=true:=Z27;clear Z27;obtain rfl:=Option.some.inj H;have Z29:=Z15.out;have Z30:=Z16.out;obtain ⟨Z31,Z32,Z33,Z34⟩:=zc2 Z9;have Z35:0≤(Z21:Int):=od;have Z36:Z21<(l0_1.length:Int):=od;obtain ⟨Z37,Z38,Z39,Z40,Z41,Z42,Z43,Z44⟩:=at_T75 Z2.out Z21 Z35 Z36;cases Z38
        replace Z39:=hc HB Z39;replace Z40:=hc HB Z40;replace Z41:=hc HB Z41;replace Z42:=hc HB Z42;replace Z43:=hc HB Z43;replace Z44:=hc HB Z44;replace Z35:=eq_true Z35;replace Z36:=eq_true Z36;obtain ⟨Z45,Z46,Z47,Z48⟩:=zc2 Z13;have Z49:0≤(Z21:Int):=od;have Z50:Z21<(l1_1.length:Int):=od;obtain ⟨Z51,Z52,Z53,Z54,Z55,Z56,Z57,Z58⟩:=at_T75 Z4.out Z21 Z49 Z50;cases Z52
        replace Z53:=hc HB Z53;replace Z54:=hc HB Z54;replace Z55:=hc HB Z55;replace Z56:=hc HB Z56;replace Z57:=hc HB Z57;replace Z58:=hc HB Z58;replace Z49:=eq_true Z49;replace Z50:=eq_true Z50;go_wp2
        repeat (go_quiet (fail);try go_wp2)
        go_ret
        exact ⟨re,bq⟩
       ·rw [if_neg Z27] at H;have Z28:(!(((rd_T75 l0_1 Z21).f0)==((rd_T75 l1_1 Z21).f0)) || (!(((rd_T75 l0_1 Z21).f1)==((rd_T75 l1_1 Z21).f1)) || (!(((rd_T75 l0_1 Z21).f2)==((rd_T75 l1_1 Z21).f2)) || (!(((rd_T75 l0_1 Z21).f3)==((rd_T75 l1_1 Z21).f3)) || (!(((rd_T75 l0_1 Z21).f4)==((rd_T75 l1_1 Z21).f4)) || (!(((rd_T75 l0_1 Z21).f5)==((rd_T75 l1_1 Z21).f5))))))))=false:=by simpa using Z27
        clear Z27;have H':=ra H;clear H;have Z29:=Z15.out;have Z30:=Z16.out;obtain ⟨Z31,Z32,Z33,Z34⟩:=zc2 Z9;have Z35:0≤(Z21:Int):=od;have Z36:Z21<(l0_1.length:Int):=od;obtain ⟨Z37,Z38,Z39,Z40,Z41,Z42,Z43,Z44⟩:=at_T75 Z2.out Z21 Z35 Z36;cases Z38
        replace Z39:=hc HB Z39;replace Z40:=hc HB Z40;replace Z41:=hc HB Z41;replace Z42:=hc HB Z42;replace Z43:=hc HB Z43;replace Z44:=hc HB Z44;replace Z35:=eq_true Z35;replace Z36:=eq_true Z36;obtain ⟨Z45,Z46,Z47,Z48⟩:=zc2 Z13;have Z49:0≤(Z21:Int):=od;have Z50:Z21<(l1_1.length:Int):=od;obtain ⟨Z51,Z52,Z53,Z54,Z55,Z56,Z57,Z58⟩:=at_T75 Z4.out Z21 Z49 Z50;cases Z52
        replace Z53:=hc HB Z53;replace Z54:=hc HB Z54;replace Z55:=hc HB Z55;replace Z56:=hc HB Z56;replace Z57:=hc HB Z57;replace Z58:=hc HB Z58;replace Z49:=eq_true Z49;replace Z50:=eq_true Z50;go_wp2
        repeat (go_quiet (fail);try go_wp2)
        go_roundg Z23
        case measure=>have:=Z18.out;have:=Z22.out;omega
        case rel=>exact ⟨_,rs,H',⟨by have:=Z18.out;have:=Z22.out;omega⟩,⟨bk Z9⟩,⟨bk Z13⟩,⟨bq⟩⟩
      ·obtain rfl:=Option.some.inj H;have Z25:=Z15.out;have Z26:=Z16.out;obtain ⟨Z27,Z28,Z29,Z30⟩:=zc2 Z9;go_wp2
       repeat (go_quiet (fail);try go_wp2)
       go_ret
       exact ⟨re,bq⟩
def laws_wList.T6:Bool × List (List Nat × List Nat):=(true,[([],[]),([],[]),([0,1],[0,1]),([2],[2]),([],[]),([],[]),([4,5],[4,5]),([6],[6]),([3,7],[3,7]),([8],[8])])
def laws_wList.B6:List Nat:=[0,0,3,7,0,0,48,112,255,511]
theorem laws_wList.tab6:rtab .any (opsOf Tryz.f9 6)=laws_wList.T6:=by kernel_rfl
theorem laws_wList.bits6:waitsOk laws_wList.T6.2 laws_wList.B6=true:=by kernel_rfl
theorem laws_wList.calls (k:Nat) (A0:Option Addr) (c0:Nat) (l0:List (S32)) (A1:Option Addr) (c1:Nat) (l1:List (S32)) (r:Bool) (w:World) (hr0:Kd.C k32 w A0 l0.length l0) (hc0:l0.length≤c0) (hr1:Kd.C k32 w A1 l1.length l1) (hc1:l1.length≤c1) (h:laws_wList.f k l0 l1=some r) :
  Calls Tryz.prog 9 #[.slice A0 l0.length c0, .slice A1 l1.length c1] w fun e w'=>e = .returned (.bool r)∧Below w.heap.size w w':=by
 have Z0:=Tryz.underlying32;have Z1:=ra hr0;have Z2:=ra hc0;clear hr0 hc0;have Z3:=ra hr1;have Z4:=ra hc1;clear hr1 hc1;have HB:=ra (Below.refl w.heap.size w);have H:=h;unfold laws_wList.f at H;clear h
 rcases ed H with ⟨Z5,Z6,Z7,H⟩ | ⟨Z5,Z6,Z7,H⟩
 ·have Z8:(l0.length==l1.length)=true:=by first | simpa using Z5 | (simp at Z5 ⊢;omega)
  clear Z5;have H':=ra H;clear H
  go_enter Tryz.func9,Tryz.ntmps9
  go_wp2
  go_loopg [5] k (fun kq v5 w'=>∃ (x5_1:Int),v5 = .int .i64 x5_1∧Aside0 (laws_wList.l0 kq l0 l1 x5_1=some r)∧Aside0 (kq≤k)∧Aside0 (Below w.heap.size w w'))
  case atStart=>exact ⟨_,rs,H',⟨Nat.le_refl _⟩,⟨bq⟩⟩
  case round =>
   clear H'
   try clear c1
   try clear Z5
   try clear Z6
   try clear Z7
   try clear Z8
   obtain ⟨Z9,rfl,HA,Z10,HB⟩:=hrel
   cases gk with
   | zero=>exact absurd HA.out (by simp [laws_wList.l0])
   | succ Z11 =>
    have H:=HA.out;clear HA;simp only [laws_wList.l0] at H
    rcases td H with ⟨Z12,H⟩ | ⟨Z12,H⟩
    ·obtain ⟨Z13,H⟩:=tn H;obtain ⟨Z14,H⟩:=tn H;obtain ⟨Z15,Z16,H⟩:=bo H
     rcases ud H with ⟨rfl,Z17⟩ | ⟨rfl,Z17⟩<;>have H:=Z17
     ·have H':=ra H;clear H
      try go_wp2
      have _:=ra (below_drew1 HB.out);clear HB
      rename_i HB
      have Z18:0≤(Z9:Int):=od;have Z19:Z9<(l0.length:Int):=od;obtain ⟨Z20,Z21,Z22,Z23,Z24,Z25,Z26,Z27⟩:=at_T32 Z1.out Z9 Z18 Z19;have Z28:=Z25;have Z29:=Z24;cases Z23
      replace Z24:=hc HB Z24;replace Z25:=hc HB Z25;have Z30:=ra Z27;have Z31:=ra Z26;clear Z27 Z26;replace Z18:=eq_true Z18;replace Z19:=eq_true Z19;have Z32:0≤(Z9:Int):=od;have Z33:Z9<(l1.length:Int):=od;obtain ⟨Z34,Z35,Z36,Z37,Z38,Z39,Z40,Z41⟩:=at_T32 Z3.out Z9 Z32 Z33;have Z42:=Z39;have Z43:=Z38;cases Z37
      replace Z38:=hc HB Z38;replace Z39:=hc HB Z39;have Z44:=ra Z41;have Z45:=ra Z40;clear Z41 Z40;replace Z32:=eq_true Z32;replace Z33:=eq_true Z33;refine start_ (n:=10) (S:=fun w'=>w'.cell? (Z20.add ((Z9).toNat * 2))=some (.string ((rd_T32 l0 Z9).f0))∧w'.cell? ⟨(Z20.add ((Z9).toNat * 2)).block,(Z20.add ((Z9).toNat * 2)).off+1,none⟩=some (.slice Z21 ((rd_T32 l0 Z9).f1).length Z22)∧w'.cell? (Z34.add ((Z9).toNat * 2))=some (.string ((rd_T32 l1 Z9).f0))∧w'.cell? ⟨(Z34.add ((Z9).toNat * 2)).block,(Z34.add ((Z9).toNat * 2)).off+1,none⟩=some (.slice Z35 ((rd_T32 l1 Z9).f1).length Z36)) (ds:=[]) (bl 10 0) (by kernel_rfl) rfl rfl ⟨(hc HB Z29),(hc HB Z28),(hc HB Z43),(hc HB Z42)⟩ (fun hHeld=>?_);refine with_tabW laws_wList.tab6 laws_wList.bits6 (fun HT_ HW_=>?_)
      generalize wr.drew=Z46 at HB Z30 Z44 Z24 Z25 Z38 Z39 hHeld ⊢
      refine pu 0 17 (bl 10 1) ?_;refine pu 1 18 (bl 10 3) ?_;refine pu 2 19 (bl 10 7) ?_;refine pu 4 21 (bl 10 23) ?_;refine pu 5 22 (bl 10 55) ?_;refine pu 6 23 (bl 10 119) ?_;refine tk 3 20 (bl 10 127) ?_ hHeld;refine tk 7 24 (bl 10 255) ?_ hHeld;refine oe 8 25 (bl 10 511) (fun K hK=>?_);refine gs Tryz.func48 #[.agg #[.string ((rd_T32 l0 Z9).f0), .slice Z21 ((rd_T32 l0 Z9).f1).length Z22], .agg #[.string ((rd_T32 l1 Z9).f0), .slice Z35 ((rd_T32 l1 Z9).f1).length Z36]] ?_
      with_reducible refine (laws_wTube.calls Z11 ((rd_T32 l0 Z9).f0) _ _ ((rd_T32 l0 Z9).f1) ((rd_T32 l1 Z9).f0) _ _ ((rd_T32 l1 Z9).f1) true _ ?side1 ?side2 ?side3 ?side4 Z16.out).mono ?_
      (case side1=>exact sc Z30)
      (case side2=>exact Z31.out)
      (case side3=>exact sc Z44)
      (case side4=>exact Z45.out)
      rintro e Z47 ⟨rfl,hb⟩
      refine ⟨_,rfl,?_⟩;have _:=bs hb;clear HB
      rename_i HB
      (try clear hb)
      refine hK.out _ _ ⟨(hc HB Z29),(hc HB Z28),(hc HB Z43),(hc HB Z42)⟩ (fun hHeld=>?_);clear hK K;refine nm 25 ?_;refine pu 9 26 (bl 10 1023) ?_;refine done_ (done_of HT_.out (by kernel_rfl)) ?_
      try go_wp2
      go_roundg Z11
      case measure=>have:=Z10.out;omega
      case rel=>exact ⟨_,rs,H',⟨by have:=Z10.out;omega⟩,⟨bq⟩⟩
     ·obtain rfl:=Option.some.inj H
      try go_wp2
      have _:=ra (below_drew1 HB.out);clear HB
      rename_i HB
      have Z18:0≤(Z9:Int):=od;have Z19:Z9<(l0.length:Int):=od;obtain ⟨Z20,Z21,Z22,Z23,Z24,Z25,Z26,Z27⟩:=at_T32 Z1.out Z9 Z18 Z19;have Z28:=Z25;have Z29:=Z24;cases Z23
      replace Z24:=hc HB Z24;replace Z25:=hc HB Z25;have Z30:=ra Z27;have Z31:=ra Z26;clear Z27 Z26;replace Z18:=eq_true Z18;replace Z19:=eq_true Z19;have Z32:0≤(Z9:Int):=od;have Z33:Z9<(l1.length:Int):=od;obtain ⟨Z34,Z35,Z36,Z37,Z38,Z39,Z40,Z41⟩:=at_T32 Z3.out Z9 Z32 Z33;have Z42:=Z39;have Z43:=Z38;cases Z37
      replace Z38:=hc HB Z38;replace Z39:=hc HB Z39;have Z44:=ra Z41;have Z45:=ra Z40;clear Z41 Z40;replace Z32:=eq_true Z32;replace Z33:=eq_true Z33;refine start_ (n:=10) (S:=fun w'=>w'.cell? (Z20.add ((Z9).toNat * 2))=some (.string ((rd_T32 l0 Z9).f0))∧w'.cell? ⟨(Z20.add ((Z9).toNat * 2)).block,(Z20.add ((Z9).toNat * 2)).off+1,none⟩=some (.slice Z21 ((rd_T32 l0 Z9).f1).length Z22)∧w'.cell? (Z34.add ((Z9).toNat * 2))=some (.string ((rd_T32 l1 Z9).f0))∧w'.cell? ⟨(Z34.add ((Z9).toNat * 2)).block,(Z34.add ((Z9).toNat * 2)).off+1,none⟩=some (.slice Z35 ((rd_T32 l1 Z9).f1).length Z36)) (ds:=[]) (bl 10 0) (by kernel_rfl) rfl rfl ⟨(hc HB Z29),(hc HB Z28),(hc HB Z43),(hc HB Z42)⟩ (fun hHeld=>?_);refine with_tabW laws_wList.tab6 laws_wList.bits6 (fun HT_ HW_=>?_)
      generalize wr.drew=Z46 at HB Z30 Z44 Z24 Z25 Z38 Z39 hHeld ⊢
      refine pu 0 17 (bl 10 1) ?_;refine pu 1 18 (bl 10 3) ?_;refine pu 2 19 (bl 10 7) ?_;refine pu 4 21 (bl 10 23) ?_;refine pu 5 22 (bl 10 55) ?_;refine pu 6 23 (bl 10 119) ?_;refine tk 3 20 (bl 10 127) ?_ hHeld;refine tk 7 24 (bl 10 255) ?_ hHeld;refine oe 8 25 (bl 10 511) (fun K hK=>?_);refine gs Tryz.func48 #[.agg #[.string ((rd_T32 l0 Z9).f0), .slice Z21 ((rd_T32 l0 Z9).f1).length Z22], .agg #[.string ((rd_T32 l1 Z9).f0), .slice Z35 ((rd_T32 l1 Z9).f1).length Z36]] ?_
      with_reducible refine (laws_wTube.calls Z11 ((rd_T32 l0 Z9).f0) _ _ ((rd_T32 l0 Z9).f1) ((rd_T32 l1 Z9).f0) _ _ ((rd_T32 l1 Z9).f1) false _ ?side1 ?side2 ?side3 ?side4 Z16.out).mono ?_
      (case side1=>exact sc Z30)
      (case side2=>exact Z31.out)
      (case side3=>exact sc Z44)
      (case side4=>exact Z45.out)
      rintro e Z47 ⟨rfl,hb⟩
      refine ⟨_,rfl,?_⟩;have _:=bs hb;clear HB
      rename_i HB
      (try clear hb)
      refine hK.out _ _ ⟨(hc HB Z29),(hc HB Z28),(hc HB Z43),(hc HB Z42)⟩ (fun hHeld=>?_);clear hK K;refine nm 25 ?_;refine pu 9 26 (bl 10 1023) ?_;refine done_ (done_of HT_.out (by kernel_rfl)) ?_
      try go_wp2
      go_ret
      exact ⟨re,bq⟩
    ·obtain rfl:=Option.some.inj H;go_wp2;go_ret
     exact ⟨re,bq⟩
 ·have Z8:(l0.length==l1.length)=false:=by first | simpa using Z5 | (simp at Z5 ⊢;omega)
  obtain rfl:=Option.some.inj H
  go_enter Tryz.func9,Tryz.ntmps9
  go_wp2;go_ret
  exact ⟨re,bq⟩
end Go.Proofs.YtgklmafdbgnohaaGreat.PA
end
section
namespace Go.Proofs.YtgklmafdbgnohaaGreat.PA
open Go.RowKit Go.Proofs.YtgklmafdbgnohaaGreatW.PrintWords Go.Proofs.YtgklmafdbgnohaaGreatW.PrintLast Go.Proofs.YtgklmafdbgnohaaGreatW.PrintMore Go.Proofs.YtgklmafdbgnohaaGreat.Z
attribute [local go_sem] max2_int min2_int max_two min_two max_three min_three max_four min_four
attribute [local go_sem high] eqA75
set_option maxHeartbeats 8000000 in
set_option maxRecDepth 100000 in
theorem impl_ProbeFollow.calls (k:Nat) (A0_0:Option Addr) (c0_0:Nat) (l0_0:List (S84)) (A1:Option Addr) (c1:Nat) (l1:List (S32)) (a2_0:Bool) (a2_1:ByteArray) (A2_2:Option Addr) (c2_2:Nat) (l2_2:List (S75)) (r:List (S84)) (w:World) (hr0_0:Kd.C k84 w A0_0 l0_0.length l0_0) (hc0_0:l0_0.length≤c0_0) (hr1:Kd.C k32 w A1 l1.length l1) (hc1:l1.length≤c1) (hr2_2:Kd.C k75 w A2_2 l2_2.length l2_2) (hc2_2:l2_2.length≤c2_2) (h:impl_ProbeFollow.f k l0_0 l1 a2_0 a2_1 l2_2=some r) :
  Calls Tryz.prog 10 #[.agg #[.slice A0_0 l0_0.length c0_0], .slice A1 l1.length c1, .agg #[.bool a2_0, .string a2_1, .slice A2_2 l2_2.length c2_2]] w fun e w'=>∃ v0_:Value,e = .returned (.agg #[v0_])∧Kd.S k84 84 w' w.heap.size (fun _=>True) v0_ r∧Below w.heap.size w w':=by
 have hu28:=Tryz.underlying28;have hu34:=Tryz.underlying34;have HR0_0:=Aside0.mk hr0_0;have HC0_0:=Aside0.mk hc0_0;clear hr0_0 hc0_0;have HR1:=Aside0.mk hr1;have HC1:=Aside0.mk hc1;clear hr1 hc1;have HR2_2:=Aside0.mk hr2_2;have HC2_2:=Aside0.mk hc2_2;clear hr2_2 hc2_2;have HB:=ra (Below.refl w.heap.size w);have H:((impl_ProbeHappen.f k l1 a2_0 a2_1 l2_2).bind fun bt457=>((impl_ProbeIndexOf.f k bt457.1).bind fun t461=>(some t461)))=some r:=h;clear h;obtain ⟨⟨t457,t460⟩,A4,H⟩:=bo H
 try dsimp only at H
 obtain ⟨t461,A5,H⟩:=bo H;obtain rfl:=Option.some.inj H
 go_enter Tryz.func10,Tryz.ntmps10
 go_wp2_with (first | ((with_reducible refine gate_dst (N:=3) rfl ?_);refine be 3 #[.slice A0_0 l0_0.length c0_0] 28 ?_;intro gb454 hg w6 hbox hb;have _:=bs hb;have _:=ra (hbox);have _:=bz (w0:=w) hg;have _:=bz (w0:=w) hg;clear HB;rename_i HB BK454 GW454 GE454;clear hb hbox hg) | ((with_reducible refine gate_dst (N:=5) rfl ?_);refine be 5 #[.bool a2_0, .string a2_1, .slice A2_2 l2_2.length c2_2] 34 ?_;intro gb455 hg w7 hbox hb;have _:=bb (bk BK454) hb;have _:=bs hb;have _:=ra (hbox);have _:=bz (w0:=w) hg;have _:=bz (w0:=w) hg;have _:=bn hg (bk BK454);have _:=bm hg (bk BK454);clear BK454 HB;rename_i BK454 HB BK455 GW455 GE455 NB454_455 NB455_454;clear hb hbox hg) | ((with_reducible refine gate_dst (N:=6) rfl ?_);refine be 6 #[.slice none 0 0] 28 ?_;intro gb456 hg w8 hbox hb;have _:=bb (bk BK454) hb;have _:=bb (bk BK455) hb;have _:=bs hb;have _:=ra (hbox);have _:=bz (w0:=w) hg;have _:=bz (w0:=w) hg;have _:=bn hg (bk BK454);have _:=bm hg (bk BK454);have _:=bn hg (bk BK455);have _:=bm hg (bk BK455);clear BK454 BK455 HB;rename_i BK454 BK455 HB BK456 GW456 GE456 NB454_456 NB456_454 NB455_456 NB456_455;clear hb hbox hg;have hnb9:=NB455_454.out;have hnc9:=NB454_455.out;have hnb10:=NB455_456.out;have hnc10:=NB456_455.out;have hcz11_0:w8.cell? ⟨gb455,0,none⟩=some (.bool a2_0):=(blk_cell BK455.out 0).trans rfl;have hcz11_1:w8.cell? ⟨gb455,1,none⟩=some (.string a2_1):=(blk_cell BK455.out 1).trans rfl;have hcz11_2:w8.cell? ⟨gb455,2,none⟩=some (.slice A2_2 l2_2.length c2_2):=(blk_cell BK455.out 2).trans rfl;have hfz11_0:=blk_frozen BK455.out 0;have hfz11_1:=blk_frozen BK455.out 1;have hfz11_2:=blk_frozen BK455.out 2) | ((with_reducible refine gate_callee (f:=7) rfl ?_);refine gl (some 12) Tryz.func7 #[.slice A1 l1.length c1, .agg #[.bool a2_0, .string a2_1, .slice A2_2 l2_2.length c2_2]] ?_;(with_reducible refine (impl_ProbeHappen.calls k _ _ l1 a2_0 a2_1 _ _ l2_2 t457 t460 _ ?side1 ?side2 ?side3 ?side4 A4.out).mono ?_);(case side1=>exact sc HR1);(case side2=>exact HC1.out);(case side3=>exact sc HR2_2);(case side4=>exact HC2_2.out);rintro e w12 ⟨v458,rfl,ho0,hb⟩;refine ⟨_,rfl,?_⟩;have _:=ra (Kd.S_lower ho0 (below_size bq));have _:=bb (bk BK454) hb;have _:=bb (bk BK455) hb;have _:=bb (bk BK456) hb;have _:=bs hb;clear BK454 BK455 BK456 HB;rename_i HO459 BK454 BK455 BK456 HB;(try clear hb);(try clear hb2);(try clear hk);(try clear hi);(try clear ho0);obtain ⟨Ao13,co13,eo13⟩:=Kd.S_slice HO459.out;subst eo13) | ((with_reducible refine gate_callee (f:=6) rfl ?_);refine gl (some 16) Tryz.func6 #[.slice Ao13 t457.length co13] ?_;(with_reducible refine (impl_ProbeIndexOf.calls k _ _ t457 t461 _ ?side1 ?side2 A5.out).mono ?_);(case side1=>repeat (first | exact (Kd.S_reads' HO459.out).2.2 | (with_reducible refine Kd.C_alloc ?_ _) | (with_reducible refine Kd.C_drewN ?_ _) | (with_reducible refine Kd.C_drew ?_)));(case side2=>exact (Kd.S_reads' HO459.out).2.1);rintro e w14 ⟨v462,rfl,ho0,hb⟩;refine ⟨_,rfl,?_⟩;have _:=ra (Kd.S_below (by (with_reducible repeat (first | apply Kd.S_alloc | apply Kd.S_drewN | apply Kd.S_drew));exact HO459.out) hb);have _:=ra (Kd.S_lower ho0 (below_size bq));have _:=bb (bk BK454) hb;have _:=bb (bk BK455) hb;have _:=bb (bk BK456) hb;have _:=bs hb;clear HO459 BK454 BK455 BK456 HB;rename_i HO459 HO463 BK454 BK455 BK456 HB;(try clear hb);(try clear hb2);(try clear hk);(try clear hi);(try clear ho0);obtain ⟨Ao15,co15,eo15⟩:=Kd.S_slice HO463.out;subst eo15;have hnb16:=NB456_454.out;have hnc16:=NB454_456.out;obtain ⟨hcz17_0,hfz17_0⟩:=zc1 BK456))
 refine bodyPost_ret (results_cell_row rfl _ _ gb456 28 #[.slice Ao15 t461.length co15] (0,0) _ rfl (bp BK456) Tryz.underlying28 rfl (by kernel_rfl)) rfl ?_;exact ⟨_,re,by (with_reducible repeat (first | apply Kd.S_alloc | apply Kd.S_drewN | apply Kd.S_drew));exact Kd.S_mono (Kd.S_far (p:=⟨gb456,0,none⟩) (Kd.S_types HO463.out BK456.out (by decide)) (fun _ hk=>hk.2) (.slice Ao15 t461.length co15)) (fun _ hk=>trivial),bq⟩
end Go.Proofs.YtgklmafdbgnohaaGreat.PA
end
section
namespace Go.Proofs.YtgklmafdbgnohaaGreat.PA
open Go.RowKit Go.Proofs.YtgklmafdbgnohaaGreatW.PrintWords Go.Proofs.YtgklmafdbgnohaaGreatW.PrintLast Go.Proofs.YtgklmafdbgnohaaGreatW.PrintMore Go.Proofs.YtgklmafdbgnohaaGreat.Z
attribute [local go_sem] max2_int min2_int max_two min_two max_three min_three max_four min_four
set_option maxHeartbeats 8000000
set_option maxRecDepth 100000
attribute [local go_sem high] eqA80
theorem laws_wIndex.calls (k:Nat) (A0_0:Option Addr) (c0_0:Nat) (l0_0:List (S84)) (A1_0:Option Addr) (c1_0:Nat) (l1_0:List (S84)) (r:Bool) (w:World) (hr0_0:Kd.C k84 w A0_0 l0_0.length l0_0) (hc0_0:l0_0.length≤c0_0) (hr1_0:Kd.C k84 w A1_0 l1_0.length l1_0) (hc1_0:l1_0.length≤c1_0) (h:laws_wIndex.f k l0_0 l1_0=some r) :
  Calls Tryz.prog 12 #[.agg #[.slice A0_0 l0_0.length c0_0], .agg #[.slice A1_0 l1_0.length c1_0]] w fun e w'=>e = .returned (.bool r)∧Below w.heap.size w w':=by
 have Z0:=Tryz.underlying28;have Z1:=Tryz.underlying80;have Z2:=ra hr0_0;have Z3:=ra hc0_0;clear hr0_0 hc0_0;have Z4:=ra hr1_0;have Z5:=ra hc1_0;clear hr1_0 hc1_0;have HB:=ra (Below.refl w.heap.size w);have H:=h;unfold laws_wIndex.f at H;clear h
 rcases ed H with ⟨Z6,Z7,Z8,H⟩ | ⟨Z6,Z7,Z8,H⟩
 ·have Z9 : (l0_0.length==l1_0.length)=true:=by first | simpa using Z6 | (simp at Z6 ⊢;omega)
  clear Z6;have H':=ra H;clear H
  go_enter Tryz.func12,Tryz.ntmps12
  go_wp2_with (first | ((with_reducible refine gd 2 rfl ?_);(try (refine gate_guard (by rfl) ?_;dsimp only));refine bd 2 #[.slice A0_0 l0_0.length c0_0] 28 ?_;intro Z10 Z11 HB Z12 Z13) | ((with_reducible refine gd 3 rfl ?_);(try (refine gate_guard (by rfl) ?_;dsimp only));refine bf 3 #[.slice A1_0 l1_0.length c1_0] 28 ?_;intro Z14 Z15 hg hb HB Z16 Z17;have Z18:=bn hg (bk Z12);have Z19:=bm hg (bk Z12);replace Z12:=bb (bk Z12) hb;have Z20:=Z18.out;have Z21:=Z19.out;obtain ⟨Z22,Z23⟩:=zc1 Z12;obtain ⟨Z24,Z25⟩:=zc1 Z16;clear hg hb))
  repeat (go_quiet (first | ((with_reducible refine gd 2 rfl ?_);(try (refine gate_guard (by rfl) ?_;dsimp only));refine bd 2 #[.slice A0_0 l0_0.length c0_0] 28 ?_;intro Z10 Z11 HB Z12 Z13) | ((with_reducible refine gd 3 rfl ?_);(try (refine gate_guard (by rfl) ?_;dsimp only));refine bf 3 #[.slice A1_0 l1_0.length c1_0] 28 ?_;intro Z14 Z15 hg hb HB Z16 Z17;have Z18:=bn hg (bk Z12);have Z19:=bm hg (bk Z12);replace Z12:=bb (bk Z12) hb;have Z20:=Z18.out;have Z21:=Z19.out;obtain ⟨Z22,Z23⟩:=zc1 Z12;obtain ⟨Z24,Z25⟩:=zc1 Z16;clear hg hb));try go_wp2_with (first | ((with_reducible refine gd 2 rfl ?_);(try (refine gate_guard (by rfl) ?_;dsimp only));refine bd 2 #[.slice A0_0 l0_0.length c0_0] 28 ?_;intro Z10 Z11 HB Z12 Z13) | ((with_reducible refine gd 3 rfl ?_);(try (refine gate_guard (by rfl) ?_;dsimp only));refine bf 3 #[.slice A1_0 l1_0.length c1_0] 28 ?_;intro Z14 Z15 hg hb HB Z16 Z17;have Z18:=bn hg (bk Z12);have Z19:=bm hg (bk Z12);replace Z12:=bb (bk Z12) hb;have Z20:=Z18.out;have Z21:=Z19.out;obtain ⟨Z22,Z23⟩:=zc1 Z12;obtain ⟨Z24,Z25⟩:=zc1 Z16;clear hg hb)))
  go_loopg [5] k (fun kq v5 w'=>∃ (x5_1:Int),v5 = .int .i64 x5_1∧Aside0 (laws_wIndex.l0 kq x5_1 l0_0 l1_0=some r)∧Aside0 (kq≤k)∧Aside0 (w'.heap[Z10]? = some (.cells #[(.slice A0_0 l0_0.length c0_0)] 28 (0,0)))∧Aside0 (w'.heap[Z14]? = some (.cells #[(.slice A1_0 l1_0.length c1_0)] 28 (0,0)))∧Aside0 (Below w.heap.size w w'))
  case atStart=>exact ⟨_,rs,H',⟨Nat.le_refl _⟩,⟨bk Z12⟩,⟨bk Z16⟩,⟨bq⟩⟩
  case round =>
   clear H'
   try clear Z6
   try clear Z7
   try clear Z8
   try clear Z9
   try clear Z22
   try clear Z24
   try clear Z23
   try clear Z25
   obtain ⟨Z26,rfl,HA,Z27,Z12,Z16,HB⟩:=hrel
   cases gk with
   | zero=>exact absurd HA.out (by simp [laws_wIndex.l0])
   | succ Z28 =>
    have H:=HA.out;clear HA;simp only [laws_wIndex.l0] at H
    rcases td H with ⟨Z29,H⟩ | ⟨Z29,H⟩
    ·have Z30 := ra H;clear H;have Z31:=Z18.out;have Z32:=Z19.out;obtain ⟨Z33,Z34⟩:=zc1 Z12
     go_upto_region 6 with (fail)
     repeat (go_quiet (fail);go_upto_region 6 with (fail))
     go_cut [65] (fun v65 wc=>∃ (kq:Nat) (x65_9:Bool),v65 = .bool x65_9∧Aside0 (laws_wIndex.j1 kq Z26 x65_9 l0_0 l1_0=some r)∧Aside0 (kq≤Z28)∧Aside0 (wc.heap[Z10]? = some (.cells #[(.slice A0_0 l0_0.length c0_0)] 28 (0,0)))∧Aside0 (wc.heap[Z14]? = some (.cells #[(.slice A1_0 l1_0.length c1_0)] 28 (0,0)))∧Aside0 (Below w.heap.size w wc))
     case first =>
      have H:=Z30.out;clear Z30;obtain ⟨Z35,H⟩:=tn H
      (first | rw [Z35] | (simp only [i64_w,i32_w];rw [Z35]) | skip)
      obtain ⟨Z36,H⟩:=tn H
      rcases ed H with ⟨-,Z37,Z38,H⟩ | ⟨Z39,Z37,Z38,H⟩
      ·rcases ed H with ⟨-,Z40,Z41,H⟩ | ⟨Z42,Z40,Z41,H⟩
       ·have H':=ra H;clear H;have Z43:=Z18.out;have Z44:=Z19.out;obtain ⟨Z45,Z46⟩:=zc1 Z12;have Z47:0≤(Z26:Int):=od;have Z48:Z26<(l0_0.length:Int):=od;obtain ⟨Z49,Z50,Z51,Z52,Z53,Z54,Z55,Z56,Z57⟩:=at_T84 Z2.out Z26 Z47 Z48;cases Z52
        replace Z53:=hc HB Z53;replace Z54:=hc HB Z54;replace Z55:=hc HB Z55;have Z58:=ra Z57;have Z59:=ra Z56;clear Z57 Z56;replace Z47:=eq_true Z47;replace Z48:=eq_true Z48;obtain ⟨Z60,Z61⟩:=zc1 Z16;have Z62:0≤(Z26:Int):=od;have Z63:Z26<(l1_0.length:Int):=od;obtain ⟨Z64,Z65,Z66,Z67,Z68,Z69,Z70,Z71,Z72⟩:=at_T84 Z4.out Z26 Z62 Z63;cases Z67
        replace Z68:=hc HB Z68;replace Z69:=hc HB Z69;replace Z70:=hc HB Z70;have Z73:=ra Z72;have Z74:=ra Z71;clear Z72 Z71;replace Z62:=eq_true Z62;replace Z63:=eq_true Z63;have Z75:0≤(Z26:Int):=od;have Z76:Z26<(l0_0.length:Int):=od;obtain ⟨Z77,Z78,Z79,Z80,Z81,Z82,Z83,Z84,Z85⟩:=at_T84 Z2.out Z26 Z75 Z76;obtain rfl:Z49=Z77:=(by injection Z80);replace Z81:=hc HB Z81;replace Z82:=hc HB Z82;replace Z83:=hc HB Z83;have Z86:=ra Z85;have Z87:=ra Z84;clear Z85 Z84;replace Z75:=eq_true Z75;replace Z76:=eq_true Z76;have ea_:=Option.some.inj (Z55.symm.trans Z83)
        injection ea_ with ea_ en_ ec_
        subst ea_;subst ec_;clear en_;have Z88:0≤(Z26:Int):=od;have Z89:Z26<(l1_0.length:Int):=od;obtain ⟨Z90,Z91,Z92,Z93,Z94,Z95,Z96,Z97,Z98⟩:=at_T84 Z4.out Z26 Z88 Z89;obtain rfl:Z64=Z90:=(by injection Z93);replace Z94:=hc HB Z94;replace Z95:=hc HB Z95;replace Z96:=hc HB Z96;have Z99:=ra Z98;have Z100:=ra Z97;clear Z98 Z97;replace Z88:=eq_true Z88;replace Z89:=eq_true Z89;have ea_:=Option.some.inj (Z70.symm.trans Z96)
        injection ea_ with ea_ en_ ec_
        subst ea_;subst ec_;clear en_;have Z101:0≤(Z26:Int):=od;have Z102:Z26<(l0_0.length:Int):=od;obtain ⟨Z103,Z104,Z105,Z106,Z107,Z108,Z109,Z110,Z111⟩:=at_T84 Z2.out Z26 Z101 Z102;obtain rfl:Z49=Z103:=(by injection Z106);replace Z107:=hc HB Z107;replace Z108:=hc HB Z108;replace Z109:=hc HB Z109;have Z112:=ra Z111;have Z113:=ra Z110;clear Z111 Z110;replace Z101:=eq_true Z101;replace Z102:=eq_true Z102;have ea_:=Option.some.inj (Z55.symm.trans Z109)
        injection ea_ with ea_ en_ ec_
        subst ea_;subst ec_;clear en_;have Z114:0≤(Z26:Int):=od;have Z115:Z26<(l1_0.length:Int):=od;obtain ⟨Z116,Z117,Z118,Z119,Z120,Z121,Z122,Z123,Z124⟩:=at_T84 Z4.out Z26 Z114 Z115;obtain rfl:Z64=Z116:=(by injection Z119);replace Z120:=hc HB Z120;replace Z121:=hc HB Z121;replace Z122:=hc HB Z122;have Z125:=ra Z124;have Z126:=ra Z123;clear Z124 Z123;replace Z114:=eq_true Z114;replace Z115:=eq_true Z115;have ea_:=Option.some.inj (Z70.symm.trans Z122)
        injection ea_ with ea_ en_ ec_
        subst ea_;subst ec_;clear en_;go_wp2
        repeat (go_quiet (fail);try go_wp2)
        go_meet
        case rel=>exact ⟨_,_,rs,H',⟨by have:=Z27.out;first | omega | exact Nat.le_refl _⟩,⟨bk Z12⟩,⟨bk Z16⟩,⟨bq⟩⟩
       ·have H':=ra H;clear H;have Z43:=Z18.out;have Z44:=Z19.out;obtain ⟨Z45,Z46⟩:=zc1 Z12;have Z47:0≤(Z26:Int):=od;have Z48:Z26<(l0_0.length:Int):=od;obtain ⟨Z49,Z50,Z51,Z52,Z53,Z54,Z55,Z56,Z57⟩:=at_T84 Z2.out Z26 Z47 Z48;cases Z52
        replace Z53:=hc HB Z53;replace Z54:=hc HB Z54;replace Z55:=hc HB Z55;have Z58:=ra Z57;have Z59:=ra Z56;clear Z57 Z56;replace Z47:=eq_true Z47;replace Z48:=eq_true Z48;obtain ⟨Z60,Z61⟩:=zc1 Z16;have Z62:0≤(Z26:Int):=od;have Z63:Z26<(l1_0.length:Int):=od;obtain ⟨Z64,Z65,Z66,Z67,Z68,Z69,Z70,Z71,Z72⟩:=at_T84 Z4.out Z26 Z62 Z63;cases Z67
        replace Z68:=hc HB Z68;replace Z69:=hc HB Z69;replace Z70:=hc HB Z70;have Z73:=ra Z72;have Z74:=ra Z71;clear Z72 Z71;replace Z62:=eq_true Z62;replace Z63:=eq_true Z63;have Z75:0≤(Z26:Int):=od;have Z76:Z26<(l0_0.length:Int):=od;obtain ⟨Z77,Z78,Z79,Z80,Z81,Z82,Z83,Z84,Z85⟩:=at_T84 Z2.out Z26 Z75 Z76;obtain rfl:Z49=Z77:=(by injection Z80);replace Z81:=hc HB Z81;replace Z82:=hc HB Z82;replace Z83:=hc HB Z83;have Z86:=ra Z85;have Z87:=ra Z84;clear Z85 Z84;replace Z75:=eq_true Z75;replace Z76:=eq_true Z76;have ea_:=Option.some.inj (Z55.symm.trans Z83)
        injection ea_ with ea_ en_ ec_
        subst ea_;subst ec_;clear en_;have Z88:0≤(Z26:Int):=od;have Z89:Z26<(l1_0.length:Int):=od;obtain ⟨Z90,Z91,Z92,Z93,Z94,Z95,Z96,Z97,Z98⟩:=at_T84 Z4.out Z26 Z88 Z89;obtain rfl:Z64=Z90:=(by injection Z93);replace Z94:=hc HB Z94;replace Z95:=hc HB Z95;replace Z96:=hc HB Z96;have Z99:=ra Z98;have Z100:=ra Z97;clear Z98 Z97;replace Z88:=eq_true Z88;replace Z89:=eq_true Z89;have ea_:=Option.some.inj (Z70.symm.trans Z96)
        injection ea_ with ea_ en_ ec_
        subst ea_;subst ec_;clear en_;go_wp2
        repeat (go_quiet (fail);try go_wp2)
        go_meet
        case rel=>exact ⟨_,_,rs,H',⟨by have:=Z27.out;first | omega | exact Nat.le_refl _⟩,⟨bk Z12⟩,⟨bk Z16⟩,⟨bq⟩⟩
      ·have H':=ra H;clear H;have Z40:=Z18.out;have Z41:=Z19.out;obtain ⟨Z42,Z43⟩:=zc1 Z12;have Z44:0≤(Z26:Int):=od;have Z45:Z26<(l0_0.length:Int):=od;obtain ⟨Z46,Z47,Z48,Z49,Z50,Z51,Z52,Z53,Z54⟩:=at_T84 Z2.out Z26 Z44 Z45;cases Z49
       replace Z50:=hc HB Z50;replace Z51:=hc HB Z51;replace Z52:=hc HB Z52;have Z55:=ra Z54;have Z56:=ra Z53;clear Z54 Z53;replace Z44:=eq_true Z44;replace Z45:=eq_true Z45;obtain ⟨Z57,Z58⟩:=zc1 Z16;have Z59:0≤(Z26:Int):=od;have Z60:Z26<(l1_0.length:Int):=od;obtain ⟨Z61,Z62,Z63,Z64,Z65,Z66,Z67,Z68,Z69⟩:=at_T84 Z4.out Z26 Z59 Z60;cases Z64
       replace Z65:=hc HB Z65;replace Z66:=hc HB Z66;replace Z67:=hc HB Z67;have Z70:=ra Z69;have Z71:=ra Z68;clear Z69 Z68;replace Z59:=eq_true Z59;replace Z60:=eq_true Z60;go_wp2
       repeat (go_quiet (fail);try go_wp2)
       go_meet
       case rel=>exact ⟨_,_,rs,H',⟨by have:=Z27.out;first | omega | exact Nat.le_refl _⟩,⟨bk Z12⟩,⟨bk Z16⟩,⟨bq⟩⟩
     case rest =>
      clear Z30
      try clear Z6
      try clear Z7
      try clear Z8
      try clear Z9
      try clear Z29
      try clear Z33
      try clear Z22
      try clear Z24
      try clear Z34
      try clear Z23
      try clear Z25
      obtain ⟨kq,Z35,rfl,HA,Z36,Z12,Z16,HB⟩:=hcut
      cases kq with
      | zero=>exact absurd HA.out (by simp [laws_wIndex.j1])
      | succ Z37 =>
       have H:=HA.out;clear HA;simp only [laws_wIndex.j1] at H
       rcases ud H with ⟨rfl,Z38⟩ | ⟨rfl,Z38⟩<;>have H:=Z38
       ·obtain rfl:=Option.some.inj H;go_wp2
        repeat (go_quiet (fail);try go_wp2)
        go_ret
        exact ⟨re,bq⟩
       ·have H':=ra H;clear H;go_wp2
        repeat (go_quiet (fail);try go_wp2)
        go_loopg [6] Z37 (fun kq v6 w'=>∃ (x6_3:Int),v6 = .int .i64 x6_3∧Aside0 (laws_wIndex.l1 kq Z26 x6_3 l0_0 l1_0=some r)∧Aside0 (kq≤Z37)∧Aside0 (w'.heap[Z10]? = some (.cells #[(.slice A0_0 l0_0.length c0_0)] 28 (0,0)))∧Aside0 (w'.heap[Z14]? = some (.cells #[(.slice A1_0 l1_0.length c1_0)] 28 (0,0)))∧Aside0 (Below w.heap.size w w'))
        case atStart=>exact ⟨_,rs,H',⟨Nat.le_refl _⟩,⟨bk Z12⟩,⟨bk Z16⟩,⟨bq⟩⟩
        case round =>
         clear H'
         try clear Z6
         try clear Z7
         try clear Z8
         try clear Z9
         try clear Z29
         try clear Z33
         try clear Z22
         try clear Z24
         try clear Z34
         try clear Z23
         try clear Z25
         obtain ⟨Z39,rfl,HA,Z40,Z12,Z16,HB⟩:=hrel
         cases gk with
         | zero=>exact absurd HA.out (by simp [laws_wIndex.l1])
         | succ Z41 =>
          have H:=HA.out;clear HA;simp only [laws_wIndex.l1] at H;obtain ⟨Z42,H⟩:=tn H;obtain ⟨Z43,H⟩:=tn H
          rcases td H with ⟨Z44,H⟩ | ⟨Z44,H⟩
          ·obtain ⟨Z45,H⟩:=tn H;obtain ⟨Z46,H⟩:=tn H;obtain ⟨Z47,H⟩:=tn H;by_cases Z48:(!(((rd_T80 ((rd_T84 l0_0 Z26).f2) Z39).f0)==((rd_T80 ((rd_T84 l1_0 Z26).f2) Z39).f0)) || (!(((rd_T80 ((rd_T84 l0_0 Z26).f2) Z39).f1)==((rd_T80 ((rd_T84 l1_0 Z26).f2) Z39).f1)) || (!(((rd_T80 ((rd_T84 l0_0 Z26).f2) Z39).f2)==((rd_T80 ((rd_T84 l1_0 Z26).f2) Z39).f2)) || (!(((rd_T80 ((rd_T84 l0_0 Z26).f2) Z39).f3)==((rd_T80 ((rd_T84 l1_0 Z26).f2) Z39).f3)) || (!((((rd_T80 ((rd_T84 l0_0 Z26).f2) Z39).f4).toList)==(((rd_T80 ((rd_T84 l1_0 Z26).f2) Z39).f4).toList)) || (!(((rd_T80 ((rd_T84 l0_0 Z26).f2) Z39).f5)==((rd_T80 ((rd_T84 l1_0 Z26).f2) Z39).f5))))))))=true
           ·rw [if_pos Z48] at H;have Z49:(!(((rd_T80 ((rd_T84 l0_0 Z26).f2) Z39).f0)==((rd_T80 ((rd_T84 l1_0 Z26).f2) Z39).f0)) || (!(((rd_T80 ((rd_T84 l0_0 Z26).f2) Z39).f1)==((rd_T80 ((rd_T84 l1_0 Z26).f2) Z39).f1)) || (!(((rd_T80 ((rd_T84 l0_0 Z26).f2) Z39).f2)==((rd_T80 ((rd_T84 l1_0 Z26).f2) Z39).f2)) || (!(((rd_T80 ((rd_T84 l0_0 Z26).f2) Z39).f3)==((rd_T80 ((rd_T84 l1_0 Z26).f2) Z39).f3)) || (!((((rd_T80 ((rd_T84 l0_0 Z26).f2) Z39).f4).toList)==(((rd_T80 ((rd_T84 l1_0 Z26).f2) Z39).f4).toList)) || (!(((rd_T80 ((rd_T84 l0_0 Z26).f2) Z39).f5)==((rd_T80 ((rd_T84 l1_0 Z26).f2) Z39).f5))))))))=true:=Z48;clear Z48;obtain rfl:=Option.some.inj H;have Z50:=Z18.out;have Z51:=Z19.out;obtain ⟨Z52,Z53⟩:=zc1 Z12;have Z54:0≤(Z26:Int):=od;have Z55:Z26<(l0_0.length:Int):=od;obtain ⟨Z56,Z57,Z58,Z59,Z60,Z61,Z62,Z63,Z64⟩:=at_T84 Z2.out Z26 Z54 Z55;cases Z59
            replace Z60:=hc HB Z60;replace Z61:=hc HB Z61;replace Z62:=hc HB Z62;have Z65:=ra Z64;have Z66:=ra Z63;clear Z64 Z63;replace Z54:=eq_true Z54;replace Z55:=eq_true Z55;have Z67:0≤(Z26:Int):=od;have Z68:Z26<(l0_0.length:Int):=od;obtain ⟨Z69,Z70,Z71,Z72,Z73,Z74,Z75,Z76,Z77⟩:=at_T84 Z2.out Z26 Z67 Z68;obtain rfl:Z56=Z69:=(by injection Z72);replace Z73:=hc HB Z73;replace Z74:=hc HB Z74;replace Z75:=hc HB Z75;have Z78:=ra Z77;have Z79:=ra Z76;clear Z77 Z76;replace Z67:=eq_true Z67;replace Z68:=eq_true Z68;have ea_:=Option.some.inj (Z62.symm.trans Z75)
            injection ea_ with ea_ en_ ec_
            subst ea_;subst ec_;clear en_;have Z80:0≤(Z39:Int):=od;have Z81:Z39<(((rd_T84 l0_0 Z26).f2).length:Int):=od;obtain ⟨Z82,Z83,Z84,Z85,Z86,Z87,Z88,Z89⟩:=at_T80 Z78.out Z39 Z80 Z81;cases Z83
            replace Z84:=hc HB Z84;replace Z85:=hc HB Z85;replace Z86:=hc HB Z86;replace Z87:=hc HB Z87;replace Z88:=hc HB Z88;replace Z89:=hc HB Z89;replace Z80:=eq_true Z80;replace Z81:=eq_true Z81;obtain ⟨Z90,Z91⟩:=zc1 Z16;have Z92:0≤(Z26:Int):=od;have Z93:Z26<(l1_0.length:Int):=od;obtain ⟨Z94,Z95,Z96,Z97,Z98,Z99,Z100,Z101,Z102⟩:=at_T84 Z4.out Z26 Z92 Z93;cases Z97
            replace Z98:=hc HB Z98;replace Z99:=hc HB Z99;replace Z100:=hc HB Z100;have Z103:=ra Z102;have Z104:=ra Z101;clear Z102 Z101;replace Z92:=eq_true Z92;replace Z93:=eq_true Z93;have Z105:0≤(Z39:Int):=od;have Z106:Z39<(((rd_T84 l1_0 Z26).f2).length:Int):=od;obtain ⟨Z107,Z108,Z109,Z110,Z111,Z112,Z113,Z114⟩:=at_T80 Z103.out Z39 Z105 Z106;cases Z108
            replace Z109:=hc HB Z109;replace Z110:=hc HB Z110;replace Z111:=hc HB Z111;replace Z112:=hc HB Z112;replace Z113:=hc HB Z113;replace Z114:=hc HB Z114;replace Z105:=eq_true Z105;replace Z106:=eq_true Z106;go_wp2
            repeat (go_quiet (fail);try go_wp2)
            go_ret
            exact ⟨re,bq⟩
           ·rw [if_neg Z48] at H;have Z49:(!(((rd_T80 ((rd_T84 l0_0 Z26).f2) Z39).f0)==((rd_T80 ((rd_T84 l1_0 Z26).f2) Z39).f0)) || (!(((rd_T80 ((rd_T84 l0_0 Z26).f2) Z39).f1)==((rd_T80 ((rd_T84 l1_0 Z26).f2) Z39).f1)) || (!(((rd_T80 ((rd_T84 l0_0 Z26).f2) Z39).f2)==((rd_T80 ((rd_T84 l1_0 Z26).f2) Z39).f2)) || (!(((rd_T80 ((rd_T84 l0_0 Z26).f2) Z39).f3)==((rd_T80 ((rd_T84 l1_0 Z26).f2) Z39).f3)) || (!((((rd_T80 ((rd_T84 l0_0 Z26).f2) Z39).f4).toList)==(((rd_T80 ((rd_T84 l1_0 Z26).f2) Z39).f4).toList)) || (!(((rd_T80 ((rd_T84 l0_0 Z26).f2) Z39).f5)==((rd_T80 ((rd_T84 l1_0 Z26).f2) Z39).f5))))))))=false:=by simpa using Z48
            clear Z48;have H':=ra H;clear H;have Z50:=Z18.out;have Z51:=Z19.out;obtain ⟨Z52,Z53⟩:=zc1 Z12;have Z54:0≤(Z26:Int):=od;have Z55:Z26<(l0_0.length:Int):=od;obtain ⟨Z56,Z57,Z58,Z59,Z60,Z61,Z62,Z63,Z64⟩:=at_T84 Z2.out Z26 Z54 Z55;cases Z59
            replace Z60:=hc HB Z60;replace Z61:=hc HB Z61;replace Z62:=hc HB Z62;have Z65:=ra Z64;have Z66:=ra Z63;clear Z64 Z63;replace Z54:=eq_true Z54;replace Z55:=eq_true Z55;have Z67:0≤(Z26:Int):=od;have Z68:Z26<(l0_0.length:Int):=od;obtain ⟨Z69,Z70,Z71,Z72,Z73,Z74,Z75,Z76,Z77⟩:=at_T84 Z2.out Z26 Z67 Z68;obtain rfl:Z56=Z69:=(by injection Z72);replace Z73:=hc HB Z73;replace Z74:=hc HB Z74;replace Z75:=hc HB Z75;have Z78:=ra Z77;have Z79:=ra Z76;clear Z77 Z76;replace Z67:=eq_true Z67;replace Z68:=eq_true Z68;have ea_:=Option.some.inj (Z62.symm.trans Z75)
            injection ea_ with ea_ en_ ec_
            subst ea_;subst ec_;clear en_;have Z80:0≤(Z39:Int):=od;have Z81:Z39<(((rd_T84 l0_0 Z26).f2).length:Int):=od;obtain ⟨Z82,Z83,Z84,Z85,Z86,Z87,Z88,Z89⟩:=at_T80 Z78.out Z39 Z80 Z81;cases Z83
            replace Z84:=hc HB Z84;replace Z85:=hc HB Z85;replace Z86:=hc HB Z86;replace Z87:=hc HB Z87;replace Z88:=hc HB Z88;replace Z89:=hc HB Z89;replace Z80:=eq_true Z80;replace Z81:=eq_true Z81;obtain ⟨Z90,Z91⟩:=zc1 Z16;have Z92:0≤(Z26:Int):=od;have Z93:Z26<(l1_0.length:Int):=od;obtain ⟨Z94,Z95,Z96,Z97,Z98,Z99,Z100,Z101,Z102⟩:=at_T84 Z4.out Z26 Z92 Z93;cases Z97
            replace Z98:=hc HB Z98;replace Z99:=hc HB Z99;replace Z100:=hc HB Z100;have Z103:=ra Z102;have Z104:=ra Z101;clear Z102 Z101;replace Z92:=eq_true Z92;replace Z93:=eq_true Z93;have Z105:0≤(Z39:Int):=od;have Z106:Z39<(((rd_T84 l1_0 Z26).f2).length:Int):=od;obtain ⟨Z107,Z108,Z109,Z110,Z111,Z112,Z113,Z114⟩:=at_T80 Z103.out Z39 Z105 Z106;cases Z108
            replace Z109:=hc HB Z109;replace Z110:=hc HB Z110;replace Z111:=hc HB Z111;replace Z112:=hc HB Z112;replace Z113:=hc HB Z113;replace Z114:=hc HB Z114;replace Z105:=eq_true Z105;replace Z106:=eq_true Z106;go_wp2
            repeat (go_quiet (fail);try go_wp2)
            go_roundg Z41
            case measure=>have:=Z27.out;have:=Z36.out;have:=Z40.out;omega
            case rel=>exact ⟨_,rs,H',⟨by have:=Z27.out;have:=Z36.out;have:=Z40.out;omega⟩,⟨bk Z12⟩,⟨bk Z16⟩,⟨bq⟩⟩
          ·have H':=ra H;clear H;have Z45:=Z18.out;have Z46:=Z19.out;obtain ⟨Z47,Z48⟩:=zc1 Z12;have Z49:0≤(Z26:Int):=od;have Z50:Z26<(l0_0.length:Int):=od;obtain ⟨Z51,Z52,Z53,Z54,Z55,Z56,Z57,Z58,Z59⟩:=at_T84 Z2.out Z26 Z49 Z50;cases Z54
           replace Z55:=hc HB Z55;replace Z56:=hc HB Z56;replace Z57:=hc HB Z57;have Z60:=ra Z59;have Z61:=ra Z58;clear Z59 Z58;replace Z49:=eq_true Z49;replace Z50:=eq_true Z50;go_wp2
           repeat (go_quiet (fail);try go_wp2)
           go_roundg Z41
           case measure=>have:=Z27.out;have:=Z36.out;have:=Z40.out;omega
           case rel=>exact ⟨_,rs,H',⟨by have:=Z27.out;have:=Z36.out;have:=Z40.out;omega⟩,⟨bk Z12⟩,⟨bk Z16⟩,⟨bq⟩⟩
    ·obtain rfl:=Option.some.inj H;have Z30:=Z18.out;have Z31:=Z19.out;obtain ⟨Z32,Z33⟩:=zc1 Z12;go_wp2
     repeat (go_quiet (fail);try go_wp2)
     go_ret
     exact ⟨re,bq⟩
 ·have Z9:(l0_0.length==l1_0.length)=false:=by first | simpa using Z6 | (simp at Z6 ⊢;omega)
  obtain rfl:=Option.some.inj H
  go_enter Tryz.func12,Tryz.ntmps12
  go_wp2_with (first | ((with_reducible refine gd 2 rfl ?_);(try (refine gate_guard (by rfl) ?_;dsimp only));refine bd 2 #[.slice A0_0 l0_0.length c0_0] 28 ?_;intro Z10 Z11 HB Z12 Z13) | ((with_reducible refine gd 3 rfl ?_);(try (refine gate_guard (by rfl) ?_;dsimp only));refine bf 3 #[.slice A1_0 l1_0.length c1_0] 28 ?_;intro Z14 Z15 hg hb HB Z16 Z17;have Z18:=bn hg (bk Z12);have Z19:=bm hg (bk Z12);replace Z12:=bb (bk Z12) hb;have Z20:=Z18.out;have Z21:=Z19.out;obtain ⟨Z22,Z23⟩:=zc1 Z12;obtain ⟨Z24,Z25⟩:=zc1 Z16;clear hg hb))
  repeat (go_quiet (first | ((with_reducible refine gd 2 rfl ?_);(try (refine gate_guard (by rfl) ?_;dsimp only));refine bd 2 #[.slice A0_0 l0_0.length c0_0] 28 ?_;intro Z10 Z11 HB Z12 Z13) | ((with_reducible refine gd 3 rfl ?_);(try (refine gate_guard (by rfl) ?_;dsimp only));refine bf 3 #[.slice A1_0 l1_0.length c1_0] 28 ?_;intro Z14 Z15 hg hb HB Z16 Z17;have Z18:=bn hg (bk Z12);have Z19:=bm hg (bk Z12);replace Z12:=bb (bk Z12) hb;have Z20:=Z18.out;have Z21:=Z19.out;obtain ⟨Z22,Z23⟩:=zc1 Z12;obtain ⟨Z24,Z25⟩:=zc1 Z16;clear hg hb));try go_wp2_with (first | ((with_reducible refine gd 2 rfl ?_);(try (refine gate_guard (by rfl) ?_;dsimp only));refine bd 2 #[.slice A0_0 l0_0.length c0_0] 28 ?_;intro Z10 Z11 HB Z12 Z13) | ((with_reducible refine gd 3 rfl ?_);(try (refine gate_guard (by rfl) ?_;dsimp only));refine bf 3 #[.slice A1_0 l1_0.length c1_0] 28 ?_;intro Z14 Z15 hg hb HB Z16 Z17;have Z18:=bn hg (bk Z12);have Z19:=bm hg (bk Z12);replace Z12:=bb (bk Z12) hb;have Z20:=Z18.out;have Z21:=Z19.out;obtain ⟨Z22,Z23⟩:=zc1 Z12;obtain ⟨Z24,Z25⟩:=zc1 Z16;clear hg hb)))
  go_ret
  exact ⟨re,bq⟩
end Go.Proofs.YtgklmafdbgnohaaGreat.PA
end
