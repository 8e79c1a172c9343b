/- Contracts of the program's and the reference's functions (they began as prints of the kit's tool; shortened and joined). No condition beside what the Lean functions say. -/
import Derived.Test.YtgklmafdbgnohaaGreatXPAd4
import Derived.Test.YtgklmafdbgnohaaGreatXZCx5
import Derived.Test.YtgklmafdbgnohaaGreatXZCv8
import Derived.Test.YtgklmafdbgnohaaGreatXG13
import Derived.Test.YtgklmafdbgnohaaGreatXR14
set_option linter.unusedVariables false
set_option linter.unusedSimpArgs false
section
namespace Go.Proofs.YtgklmafdbgnohaaGreat.PA
open Go.RowKit Go.Proofs.YtgklmafdbgnohaaGreatW.PrintWords Go.Proofs.YtgklmafdbgnohaaGreatW.PrintLast Go.Proofs.YtgklmafdbgnohaaGreatW.PrintMore Go.Proofs.YtgklmafdbgnohaaGreat.Z
attribute [local go_sem] max2_int min2_int max_two min_two max_three min_three max_four min_four
set_option maxHeartbeats 8000000
set_option maxRecDepth 100000
def impl_ProbeSkyOk.T6:Bool × List (List Nat × List Nat):=(true,[([],[]),([0],[0]),([1],[1]),([2,1],[2]),([3],[3]),([4,3],[3,4]),([5,3,3],[3,5]),([6],[6]),([6],[6]),([8,6],[6,8]),([7,9,6],[6,7,9]),([10,6],[6,10]),([11,6],[6,11]),([6],[6]),([13,6],[6,13]),([12,14,6],[6,12,14]),([6,15,3],[3,6,15]),([3,16],[3,16])])
def impl_ProbeSkyOk.B6:List Nat:=[0,1,3,7,15,31,63,127,127,383,1023,2047,4095,127,8319,32767,65535,131071]
theorem impl_ProbeSkyOk.tab6:rtab .any (opsOf Tryz.f11 6)=impl_ProbeSkyOk.T6:=by kernel_rfl
theorem impl_ProbeSkyOk.bits6:waitsOk impl_ProbeSkyOk.T6.2 impl_ProbeSkyOk.B6=true:=by kernel_rfl
theorem impl_ProbeSkyOk.calls (k:Nat) (A0:Option Addr) (c0:Nat) (l0:List (S32)) (r:Bool) (w:World) (hr0:Kd.C k32 w A0 l0.length l0) (hc0:l0.length≤c0) (h:impl_ProbeSkyOk.f k l0=some r) :
  Calls Tryz.prog 11 #[.slice A0 l0.length c0] w fun e w'=>e = .returned (.bool r)∧Below w.heap.size w w':=by
 have Z0:=Tryz.underlying32;have Z1:=ra hr0;have Z2:=ra hc0;clear hr0 hc0;have HB:=ra (Below.refl w.heap.size w);have H:=h;unfold impl_ProbeSkyOk.f at H;clear h
 rcases sd H with ⟨Z3,Z4,H⟩ | ⟨Z3,Z4,H⟩
 ·have Z5:decide (24<l0.length)=true:=decide_eq_true (by omega);clear Z3;obtain rfl:=Option.some.inj H
  go_enter Tryz.func11,Tryz.ntmps11
  go_wp2;go_ret
  exact ⟨re,bq⟩
 ·have Z5 : decide (24<l0.length)=false:=decide_eq_false (by omega);clear Z3;have H':=ra H;clear H
  go_enter Tryz.func11,Tryz.ntmps11
  go_wp2
  go_loopg [10] k (fun kq v10 w'=>∃ (x10_1:Int),v10 = .int .i64 x10_1∧Aside0 (impl_ProbeSkyOk.l0 kq l0 l0 (l0.length:Int) x10_1=some r)∧Aside0 (kq≤k)∧Aside0 (Below w.heap.size w w'))
  case atStart=>exact ⟨_,rs,H',⟨Nat.le_refl _⟩,⟨bq⟩⟩
  case round =>
   clear H'
   try clear Z3
   try clear Z4
   try clear Z5
   obtain ⟨Z6,rfl,HA,Z7,HB⟩:=hrel
   cases gk with
   | zero=>exact absurd HA.out (by simp [impl_ProbeSkyOk.l0])
   | succ Z8 =>
    have H:=HA.out;clear HA;simp only [impl_ProbeSkyOk.l0] at H
    rcases td H with ⟨Z9,H⟩ | ⟨Z9,H⟩
    ·obtain ⟨Z10,H⟩:=tn H;obtain ⟨Z11,H⟩:=tn H;obtain ⟨Z12,Z13,H⟩:=bo H
     rcases ud H with ⟨rfl,Z14⟩ | ⟨rfl,Z14⟩<;>have H:=Z14
     ·rcases td H with ⟨Z15,H⟩ | ⟨Z15,H⟩
      ·obtain ⟨Z16,Z17⟩:∃ j_:Int,(wrap64 (Z6 - 1))=j_:=⟨_,rfl⟩;replace H:(if 0≤(Z16) then (if (Z16)<(l0.length:Int) then (if ((Op.bytesLess (((rd_T32 l0 (Z16)).f0).toList) (((rd_T32 l0 Z6).f0).toList))=true) then (impl_ProbeSkyOk.l0 Z8 l0 l0 (l0.length:Int) (wrap64 (Z6+1))) else (some false)) else (none)) else (none))=some r:=by first | (rw [Z17] at H;exact H) | (simp only [Z17] at H ⊢;exact H)
       (try rw [Z17] at Z13)
       have Z18:(IntKind.i64.wrap (Z6 - 1))=Z16:=(i64_w _).trans Z17;obtain ⟨Z19,H⟩:=tn H;obtain ⟨Z20,H⟩:=tn H;by_cases Z21:((Op.bytesLess (((rd_T32 l0 (Z16)).f0).toList) (((rd_T32 l0 Z6).f0).toList))=true)
       ·rw [if_pos Z21] at H;have Z22:(Op.bytesLess (((rd_T32 l0 (Z16)).f0).toList) (((rd_T32 l0 Z6).f0).toList))=true:=Z21;clear Z21;have H':=ra H;clear H;have Z23:0≤(Z6:Int):=od;have Z24:Z6<(l0.length:Int):=od;obtain ⟨Z25,Z26,Z27,Z28,Z29,Z30,Z31,Z32⟩:=at_T32 Z1.out Z6 Z23 Z24;cases Z28
        replace Z29:=hc HB Z29;replace Z30:=hc HB Z30;have Z33:=ra Z32;have Z34:=ra Z31;clear Z32 Z31;replace Z23:=eq_true Z23;replace Z24:=eq_true Z24
        try go_wp2_with (first | ((with_reducible refine gd 4 rfl ?_);refine bd 4 #[.string (⟨#[]⟩:ByteArray), .slice none 0 0] 32 ?_;intro Z35 Z36 HB Z37 Z38;obtain ⟨Z39,Z40,Z41,Z42⟩:=zc2 Z37))
        have Z43:Aside0 (((Z36.setCell ⟨Z35,0,none⟩ (.string ((rd_T32 l0 Z6).f0))).setCell ⟨Z35,1,none⟩ (.slice Z26 ((rd_T32 l0 Z6).f1).length Z27)).heap[Z35]? = some (.cells #[.string ((rd_T32 l0 Z6).f0), .slice Z26 ((rd_T32 l0 Z6).f1).length Z27] 32 (0,0))):=⟨bp Z37⟩;have Z44:Aside0 (Below w.heap.size w ((Z36.setCell ⟨Z35,0,none⟩ (.string ((rd_T32 l0 Z6).f0))).setCell ⟨Z35,1,none⟩ (.slice Z26 ((rd_T32 l0 Z6).f1).length Z27))):=⟨bq⟩
        (try clear Z37)
        (try clear HB)
        generalize ((Z36.setCell ⟨Z35,0,none⟩ (.string ((rd_T32 l0 Z6).f0))).setCell ⟨Z35,1,none⟩ (.slice Z26 ((rd_T32 l0 Z6).f1).length Z27))=Z45 at Z43 Z44 ⊢
        have Z37:=Z43;have HB:=Z44;clear Z43 Z44;have _:=ra (blk_drew Z37.out);have _:=ra (below_drew1 HB.out);clear Z37 HB
        rename_i Z37 HB
        have Z46:0≤((Z16):Int):=od;have Z47:(Z16)<(l0.length:Int):=od;obtain ⟨Z48,Z49,Z50,Z51,Z52,Z53,Z54,Z55⟩:=at_T32 Z1.out (Z16) Z46 Z47;have Z56:=Z53;have Z57:=Z52;obtain rfl:Z25=Z48:=(by injection Z51);replace Z52:=hc HB Z52;replace Z53:=hc HB Z53;have Z58:=ra Z55;have Z59:=ra Z54;clear Z55 Z54;replace Z46:=eq_true Z46;replace Z47:=eq_true Z47;refine start_ (n:=18) (S:=fun w'=>w'.cell? ⟨Z35,0,none⟩=some (.string ((rd_T32 l0 Z6).f0))∧w'.cell? ⟨Z35,1,none⟩=some (.slice Z26 ((rd_T32 l0 Z6).f1).length Z27)∧w'.cell? (Z25.add (((Z16)).toNat * 2))=some (.string ((rd_T32 l0 (Z16)).f0))∧w'.cell? ⟨(Z25.add (((Z16)).toNat * 2)).block,(Z25.add (((Z16)).toNat * 2)).off+1,none⟩=some (.slice Z49 ((rd_T32 l0 (Z16)).f1).length Z50)) (ds:=[]) (bl 18 0) (by kernel_rfl) rfl rfl ⟨(blk_cell Z37.out 0).trans rfl,(blk_cell Z37.out 1).trans rfl,(hc HB Z57),(hc HB Z56)⟩ (fun hHeld=>?_);refine with_tabW impl_ProbeSkyOk.tab6 impl_ProbeSkyOk.bits6 (fun HT_ HW_=>?_)
        generalize Z45.drew=Z60 at Z37 HB Z58 Z52 Z53 hHeld ⊢
        refine tk 0 15 (bl 18 1) ?_ hHeld;refine oe 1 16 (bl 18 3) (fun K hK=>?_);refine gs Tryz.func43 #[.agg #[.string ((rd_T32 l0 Z6).f0), .slice Z26 ((rd_T32 l0 Z6).f1).length Z27]] ?_
        with_reducible refine (impl_ProbeTubeOk.calls Z8 ((rd_T32 l0 Z6).f0) _ _ ((rd_T32 l0 Z6).f1) true _ ?side1 ?side2 Z13.out).mono ?_
        (case side1=>exact sc Z33)
        (case side2=>exact Z34.out)
        rintro e Z61 ⟨rfl,hb⟩
        refine ⟨_,rfl,?_⟩;have _:=bb (bk Z37) hb;have _:=bs hb;clear Z37 HB
        rename_i Z37 HB
        (try clear hb)
        refine hK.out _ _ ⟨(blk_cell Z37.out 0).trans rfl,(blk_cell Z37.out 1).trans rfl,(hc HB Z57),(hc HB Z56)⟩ (fun hHeld=>?_);clear hK K;refine nm 16 ?_;refine pu 2 17 (bl 18 7) ?_;refine pu 3 18 (bl 18 15) ?_;refine pu 4 19 (bl 18 31) ?_;refine pu 5 20 (bl 18 63) ?_;refine pu 6 21 (bl 18 127) ?_;refine pu 7 22 (bl 18 255) ?_;refine pu 8 23 (bl 18 511) ?_;refine pu 9 24 (bl 18 1023) ?_;refine pu 10 25 (bl 18 2047) ?_;refine pu 11 26 (bl 18 4095) ?_;refine pu 13 28 (bl 18 12287) ?_;refine tk 12 27 (bl 18 16383) ?_ hHeld;refine tk 14 29 (bl 18 32767) ?_ hHeld;refine pu 15 30 (bl 18 65535) ?_;refine pu 16 31 (bl 18 131071) ?_;refine pu 17 32 (bl 18 262143) ?_;refine done_ (done_of HT_.out (by kernel_rfl)) ?_
        try go_wp2
        go_roundg Z8
        case measure=>have:=Z7.out;omega
        case rel=>exact ⟨_,rs,H',⟨by have:=Z7.out;omega⟩,⟨bq⟩⟩
       ·rw [if_neg Z21] at H;have Z22:(Op.bytesLess (((rd_T32 l0 (Z16)).f0).toList) (((rd_T32 l0 Z6).f0).toList))=false:=by simpa using Z21
        clear Z21;obtain rfl:=Option.some.inj H;have Z23:0≤(Z6:Int):=od;have Z24:Z6<(l0.length:Int):=od;obtain ⟨Z25,Z26,Z27,Z28,Z29,Z30,Z31,Z32⟩:=at_T32 Z1.out Z6 Z23 Z24;cases Z28
        replace Z29:=hc HB Z29;replace Z30:=hc HB Z30;have Z33:=ra Z32;have Z34:=ra Z31;clear Z32 Z31;replace Z23:=eq_true Z23;replace Z24:=eq_true Z24
        try go_wp2_with (first | ((with_reducible refine gd 4 rfl ?_);refine bd 4 #[.string (⟨#[]⟩:ByteArray), .slice none 0 0] 32 ?_;intro Z35 Z36 HB Z37 Z38;obtain ⟨Z39,Z40,Z41,Z42⟩:=zc2 Z37))
        have Z43:Aside0 (((Z36.setCell ⟨Z35,0,none⟩ (.string ((rd_T32 l0 Z6).f0))).setCell ⟨Z35,1,none⟩ (.slice Z26 ((rd_T32 l0 Z6).f1).length Z27)).heap[Z35]? = some (.cells #[.string ((rd_T32 l0 Z6).f0), .slice Z26 ((rd_T32 l0 Z6).f1).length Z27] 32 (0,0))):=⟨bp Z37⟩;have Z44:Aside0 (Below w.heap.size w ((Z36.setCell ⟨Z35,0,none⟩ (.string ((rd_T32 l0 Z6).f0))).setCell ⟨Z35,1,none⟩ (.slice Z26 ((rd_T32 l0 Z6).f1).length Z27))):=⟨bq⟩
        (try clear Z37)
        (try clear HB)
        generalize ((Z36.setCell ⟨Z35,0,none⟩ (.string ((rd_T32 l0 Z6).f0))).setCell ⟨Z35,1,none⟩ (.slice Z26 ((rd_T32 l0 Z6).f1).length Z27))=Z45 at Z43 Z44 ⊢
        have Z37:=Z43;have HB:=Z44;clear Z43 Z44;have _:=ra (blk_drew Z37.out);have _:=ra (below_drew1 HB.out);clear Z37 HB
        rename_i Z37 HB
        have Z46:0≤((Z16):Int):=od;have Z47:(Z16)<(l0.length:Int):=od;obtain ⟨Z48,Z49,Z50,Z51,Z52,Z53,Z54,Z55⟩:=at_T32 Z1.out (Z16) Z46 Z47;have Z56:=Z53;have Z57:=Z52;obtain rfl:Z25=Z48:=(by injection Z51);replace Z52:=hc HB Z52;replace Z53:=hc HB Z53;have Z58:=ra Z55;have Z59:=ra Z54;clear Z55 Z54;replace Z46:=eq_true Z46;replace Z47:=eq_true Z47;refine start_ (n:=18) (S:=fun w'=>w'.cell? ⟨Z35,0,none⟩=some (.string ((rd_T32 l0 Z6).f0))∧w'.cell? ⟨Z35,1,none⟩=some (.slice Z26 ((rd_T32 l0 Z6).f1).length Z27)∧w'.cell? (Z25.add (((Z16)).toNat * 2))=some (.string ((rd_T32 l0 (Z16)).f0))∧w'.cell? ⟨(Z25.add (((Z16)).toNat * 2)).block,(Z25.add (((Z16)).toNat * 2)).off+1,none⟩=some (.slice Z49 ((rd_T32 l0 (Z16)).f1).length Z50)) (ds:=[]) (bl 18 0) (by kernel_rfl) rfl rfl ⟨(blk_cell Z37.out 0).trans rfl,(blk_cell Z37.out 1).trans rfl,(hc HB Z57),(hc HB Z56)⟩ (fun hHeld=>?_);refine with_tabW impl_ProbeSkyOk.tab6 impl_ProbeSkyOk.bits6 (fun HT_ HW_=>?_)
        generalize Z45.drew=Z60 at Z37 HB Z58 Z52 Z53 hHeld ⊢
        refine tk 0 15 (bl 18 1) ?_ hHeld;refine oe 1 16 (bl 18 3) (fun K hK=>?_);refine gs Tryz.func43 #[.agg #[.string ((rd_T32 l0 Z6).f0), .slice Z26 ((rd_T32 l0 Z6).f1).length Z27]] ?_
        with_reducible refine (impl_ProbeTubeOk.calls Z8 ((rd_T32 l0 Z6).f0) _ _ ((rd_T32 l0 Z6).f1) true _ ?side1 ?side2 Z13.out).mono ?_
        (case side1=>exact sc Z33)
        (case side2=>exact Z34.out)
        rintro e Z61 ⟨rfl,hb⟩
        refine ⟨_,rfl,?_⟩;have _:=bb (bk Z37) hb;have _:=bs hb;clear Z37 HB
        rename_i Z37 HB
        (try clear hb)
        refine hK.out _ _ ⟨(blk_cell Z37.out 0).trans rfl,(blk_cell Z37.out 1).trans rfl,(hc HB Z57),(hc HB Z56)⟩ (fun hHeld=>?_);clear hK K;refine nm 16 ?_;refine pu 2 17 (bl 18 7) ?_;refine pu 3 18 (bl 18 15) ?_;refine pu 4 19 (bl 18 31) ?_;refine pu 5 20 (bl 18 63) ?_;refine pu 6 21 (bl 18 127) ?_;refine pu 7 22 (bl 18 255) ?_;refine pu 8 23 (bl 18 511) ?_;refine pu 9 24 (bl 18 1023) ?_;refine pu 10 25 (bl 18 2047) ?_;refine pu 11 26 (bl 18 4095) ?_;refine pu 13 28 (bl 18 12287) ?_;refine tk 12 27 (bl 18 16383) ?_ hHeld;refine tk 14 29 (bl 18 32767) ?_ hHeld;refine pu 15 30 (bl 18 65535) ?_;refine pu 16 31 (bl 18 131071) ?_;refine pu 17 32 (bl 18 262143) ?_;refine done_ (done_of HT_.out (by kernel_rfl)) ?_
        try go_wp2
        go_ret
        exact ⟨by first | rfl | (simp [errW_none,errW_some]<;>rfl) | (simp only [← Z17];first | rfl | (simp [errW_none,errW_some]<;>rfl)) | (simp [*,errW_none,errW_some]<;>rfl),bq⟩
      ·have H':=ra H;clear H;have Z16:0≤(Z6:Int):=od;have Z17:Z6<(l0.length:Int):=od;obtain ⟨Z18,Z19,Z20,Z21,Z22,Z23,Z24,Z25⟩:=at_T32 Z1.out Z6 Z16 Z17;cases Z21
       replace Z22:=hc HB Z22;replace Z23:=hc HB Z23;have Z26:=ra Z25;have Z27:=ra Z24;clear Z25 Z24;replace Z16:=eq_true Z16;replace Z17:=eq_true Z17
       try go_wp2_with (first | ((with_reducible refine gd 4 rfl ?_);refine bd 4 #[.string (⟨#[]⟩:ByteArray), .slice none 0 0] 32 ?_;intro Z28 Z29 HB Z30 Z31;obtain ⟨Z32,Z33,Z34,Z35⟩:=zc2 Z30))
       have Z36:Aside0 (((Z29.setCell ⟨Z28,0,none⟩ (.string ((rd_T32 l0 Z6).f0))).setCell ⟨Z28,1,none⟩ (.slice Z19 ((rd_T32 l0 Z6).f1).length Z20)).heap[Z28]? = some (.cells #[.string ((rd_T32 l0 Z6).f0), .slice Z19 ((rd_T32 l0 Z6).f1).length Z20] 32 (0,0))):=⟨bp Z30⟩;have Z37:Aside0 (Below w.heap.size w ((Z29.setCell ⟨Z28,0,none⟩ (.string ((rd_T32 l0 Z6).f0))).setCell ⟨Z28,1,none⟩ (.slice Z19 ((rd_T32 l0 Z6).f1).length Z20))):=⟨bq⟩
       (try clear Z30)
       (try clear HB)
       generalize ((Z29.setCell ⟨Z28,0,none⟩ (.string ((rd_T32 l0 Z6).f0))).setCell ⟨Z28,1,none⟩ (.slice Z19 ((rd_T32 l0 Z6).f1).length Z20))=Z38 at Z36 Z37 ⊢
       have Z30:=Z36;have HB:=Z37;clear Z36 Z37;have _:=ra (blk_drew Z30.out);have _:=ra (below_drew1 HB.out);clear Z30 HB
       rename_i Z30 HB
       refine start_ (n:=18) (S:=fun w'=>w'.cell? ⟨Z28,0,none⟩=some (.string ((rd_T32 l0 Z6).f0))∧w'.cell? ⟨Z28,1,none⟩=some (.slice Z19 ((rd_T32 l0 Z6).f1).length Z20)) (ds:=[]) (bl 18 0) (by kernel_rfl) rfl rfl ⟨(blk_cell Z30.out 0).trans rfl,(blk_cell Z30.out 1).trans rfl⟩ (fun hHeld=>?_);refine with_tabW impl_ProbeSkyOk.tab6 impl_ProbeSkyOk.bits6 (fun HT_ HW_=>?_)
       generalize Z38.drew=Z39 at Z30 HB hHeld ⊢
       refine tk 0 15 (bl 18 1) ?_ hHeld;refine oe 1 16 (bl 18 3) (fun K hK=>?_);refine gs Tryz.func43 #[.agg #[.string ((rd_T32 l0 Z6).f0), .slice Z19 ((rd_T32 l0 Z6).f1).length Z20]] ?_
       with_reducible refine (impl_ProbeTubeOk.calls Z8 ((rd_T32 l0 Z6).f0) _ _ ((rd_T32 l0 Z6).f1) true _ ?side1 ?side2 Z13.out).mono ?_
       (case side1=>exact sc Z26)
       (case side2=>exact Z27.out)
       rintro e Z40 ⟨rfl,hb⟩
       refine ⟨_,rfl,?_⟩;have _:=bb (bk Z30) hb;have _:=bs hb;clear Z30 HB
       rename_i Z30 HB
       (try clear hb)
       refine hK.out _ _ ⟨(blk_cell Z30.out 0).trans rfl,(blk_cell Z30.out 1).trans rfl⟩ (fun hHeld=>?_);clear hK K;refine nm 16 ?_;refine pu 2 17 (bl 18 7) ?_;refine pu 3 18 (bl 18 15) ?_;refine pu 4 19 (bl 18 31) ?_;refine pu 5 20 (bl 18 63) ?_;refine pu 6 21 (bl 18 127) ?_;refine pv 7 22 (bl 18 255) ?_;refine pv 8 23 (bl 18 511) ?_;refine pv 9 24 (bl 18 1023) ?_;refine pv 10 25 (bl 18 2047) ?_;refine pv 11 26 (bl 18 4095) ?_;refine pv 12 27 (bl 18 8191) ?_;refine pv 13 28 (bl 18 16383) ?_;refine pv 14 29 (bl 18 32767) ?_;refine pv 15 30 (bl 18 65535) ?_;refine pu 16 31 (bl 18 131071) ?_;refine pu 17 32 (bl 18 262143) ?_;refine done_ (done_of HT_.out (by kernel_rfl)) ?_
       try go_wp2
       go_roundg Z8
       case measure=>have:=Z7.out;omega
       case rel=>exact ⟨_,rs,H',⟨by have:=Z7.out;omega⟩,⟨bq⟩⟩
     ·obtain rfl:=Option.some.inj H;have Z15:0≤(Z6:Int):=od;have Z16:Z6<(l0.length:Int):=od;obtain ⟨Z17,Z18,Z19,Z20,Z21,Z22,Z23,Z24⟩:=at_T32 Z1.out Z6 Z15 Z16;cases Z20
      replace Z21:=hc HB Z21;replace Z22:=hc HB Z22;have Z25:=ra Z24;have Z26:=ra Z23;clear Z24 Z23;replace Z15:=eq_true Z15;replace Z16:=eq_true Z16
      try go_wp2_with (first | ((with_reducible refine gd 4 rfl ?_);refine bd 4 #[.string (⟨#[]⟩:ByteArray), .slice none 0 0] 32 ?_;intro Z27 Z28 HB Z29 Z30;obtain ⟨Z31,Z32,Z33,Z34⟩:=zc2 Z29))
      have Z35:Aside0 (((Z28.setCell ⟨Z27,0,none⟩ (.string ((rd_T32 l0 Z6).f0))).setCell ⟨Z27,1,none⟩ (.slice Z18 ((rd_T32 l0 Z6).f1).length Z19)).heap[Z27]? = some (.cells #[.string ((rd_T32 l0 Z6).f0), .slice Z18 ((rd_T32 l0 Z6).f1).length Z19] 32 (0,0))):=⟨bp Z29⟩;have Z36:Aside0 (Below w.heap.size w ((Z28.setCell ⟨Z27,0,none⟩ (.string ((rd_T32 l0 Z6).f0))).setCell ⟨Z27,1,none⟩ (.slice Z18 ((rd_T32 l0 Z6).f1).length Z19))):=⟨bq⟩
      (try clear Z29)
      (try clear HB)
      generalize ((Z28.setCell ⟨Z27,0,none⟩ (.string ((rd_T32 l0 Z6).f0))).setCell ⟨Z27,1,none⟩ (.slice Z18 ((rd_T32 l0 Z6).f1).length Z19))=Z37 at Z35 Z36 ⊢
      have Z29:=Z35;have HB:=Z36;clear Z35 Z36;have _:=ra (blk_drew Z29.out);have _:=ra (below_drew1 HB.out);clear Z29 HB
      rename_i Z29 HB
      refine start_ (n:=18) (S:=fun w'=>w'.cell? ⟨Z27,0,none⟩=some (.string ((rd_T32 l0 Z6).f0))∧w'.cell? ⟨Z27,1,none⟩=some (.slice Z18 ((rd_T32 l0 Z6).f1).length Z19)) (ds:=[]) (bl 18 0) (by kernel_rfl) rfl rfl ⟨(blk_cell Z29.out 0).trans rfl,(blk_cell Z29.out 1).trans rfl⟩ (fun hHeld=>?_);refine with_tabW impl_ProbeSkyOk.tab6 impl_ProbeSkyOk.bits6 (fun HT_ HW_=>?_)
      generalize Z37.drew=Z38 at Z29 HB hHeld ⊢
      refine tk 0 15 (bl 18 1) ?_ hHeld;refine oe 1 16 (bl 18 3) (fun K hK=>?_);refine gs Tryz.func43 #[.agg #[.string ((rd_T32 l0 Z6).f0), .slice Z18 ((rd_T32 l0 Z6).f1).length Z19]] ?_
      with_reducible refine (impl_ProbeTubeOk.calls Z8 ((rd_T32 l0 Z6).f0) _ _ ((rd_T32 l0 Z6).f1) false _ ?side1 ?side2 Z13.out).mono ?_
      (case side1=>exact sc Z25)
      (case side2=>exact Z26.out)
      rintro e Z39 ⟨rfl,hb⟩
      refine ⟨_,rfl,?_⟩;have _:=bb (bk Z29) hb;have _:=bs hb;clear Z29 HB
      rename_i Z29 HB
      (try clear hb)
      refine hK.out _ _ ⟨(blk_cell Z29.out 0).trans rfl,(blk_cell Z29.out 1).trans rfl⟩ (fun hHeld=>?_);clear hK K;refine nm 16 ?_;refine pu 2 17 (bl 18 7) ?_;refine pu 3 18 (bl 18 15) ?_;refine pv 4 19 (bl 18 31) ?_;refine pv 5 20 (bl 18 63) ?_;refine pv 6 21 (bl 18 127) ?_;refine pv 7 22 (bl 18 255) ?_;refine pv 8 23 (bl 18 511) ?_;refine pv 9 24 (bl 18 1023) ?_;refine pv 10 25 (bl 18 2047) ?_;refine pv 11 26 (bl 18 4095) ?_;refine pv 12 27 (bl 18 8191) ?_;refine pv 13 28 (bl 18 16383) ?_;refine pv 14 29 (bl 18 32767) ?_;refine pv 15 30 (bl 18 65535) ?_;refine pv 16 31 (bl 18 131071) ?_;refine pu 17 32 (bl 18 262143) ?_;refine done_ (done_of HT_.out (by kernel_rfl)) ?_
      try go_wp2
      go_ret
      exact ⟨re,bq⟩
    ·obtain rfl:=Option.some.inj H;go_wp2;go_ret
     exact ⟨re,bq⟩
end Go.Proofs.YtgklmafdbgnohaaGreat.PA
end
section
namespace Go.Proofs.YtgklmafdbgnohaaGreat.PA
open Go.RowKit Go.Proofs.YtgklmafdbgnohaaGreatW.PrintWords Go.Proofs.YtgklmafdbgnohaaGreatW.PrintLast Go.Proofs.YtgklmafdbgnohaaGreatW.PrintMore Go.Proofs.YtgklmafdbgnohaaGreat.Z Go.Proofs.YtgklmafdbgnohaaGreat.Ik Go.Proofs.YtgklmafdbgnohaaGreat.Ix Go.Proofs.YtgklmafdbgnohaaGreat.Il Go.Proofs.YtgklmafdbgnohaaGreat.Iw Go.Proofs.YtgklmafdbgnohaaGreat.Ir Go.Proofs.YtgklmafdbgnohaaGreat.Is Go.Proofs.YtgklmafdbgnohaaGreat.It
set_option maxHeartbeats 8000000 in
set_option maxRecDepth 100000 in
theorem impl_ProbeIndexOf.calls (k:Nat) (A0:Option Addr) (c0:Nat) (l0:List S32) (r:List S84) (w:World) (hr0:Kd.C k32 w A0 l0.length l0) (hc0:l0.length≤c0) (h:impl_ProbeIndexOf.f k l0=some r) :
  Calls Tryz.prog 6 #[.slice A0 l0.length c0] w fun e w'=>∃ v0_:Value,e = .returned (.agg #[v0_])∧Kd.S k84 84 w' w.heap.size (fun _=>True) v0_ r∧Below w.heap.size w w':=by
 have hu26:=Tryz.underlying28;have hu42:=Tryz.underlying32;have hu45:=Tryz.underlying75;have hu49:=Tryz.underlying77;have hu52:=Tryz.underlying80;have hu56:=Tryz.underlying84;have HR0:=Aside0.mk hr0;have HC0:=Aside0.mk hc0;clear hr0 hc0;have HB:=ra (Below.refl w.heap.size w);have H:((impl_ProbeSkyOk.f k l0).bind fun t322=>(if t322=true then ((Ix.impl l0).bind fun t323=>(some t323)) else (some ([]:List (S84)))))=some r:=h;clear h;obtain ⟨t322,A2,H⟩:=bo H;by_cases c3:t322=true
 · subst c3;replace H:=it H rfl;obtain ⟨t323,A4,H⟩:=bo H;obtain rfl:=Option.some.inj H
   have hlim:Aside0 (Small l0∧fin ((evT l0).foldl putM [])=some t323):=by
    have h:=A4.out
    unfold Ix.impl at h
    split at h
    · exact ⟨by assumption,h⟩
    · cases h
   clear H A4
   go_enter Tryz.func6,Tryz.ntmps6
   go_upto_block 0 with (first | ((with_reducible refine gate_dst (N:=2) rfl ?_);refine be 2 #[.slice none 0 0] 28 ?_;intro gb hg w5 hbox hb;have _:=bs hb;have _:=ra (hbox);have _:=bz (w0:=w) hg;clear HB;rename_i HB BK GE;clear hb hbox hg) | ((with_reducible refine gate_callee (f:=11) rfl ?_);refine gl (some 13) Tryz.func11 #[.slice A0 l0.length c0] ?_;(with_reducible refine (impl_ProbeSkyOk.calls k _ _ l0 true _ ?side1 ?side2 A2.out).mono ?_);(case side1=>exact sc HR0);(case side2=>exact HC0.out);rintro e w6 ⟨rfl,hb⟩;refine ⟨_,rfl,?_⟩;have _:=bb (bk BK) hb;have _:=bs hb;clear BK HB;rename_i BK HB;clear hb) | ((with_reducible refine gate_dst (N:=16) rfl ?_);refine Mq.mk_event rfl rfl ?_;intro gm hgm w7 hbm hb;have HM:=ra (show MI w gm gb [] [] w7 from ⟨hbm,Mq.rows_nil _ _,blk_below BK.out hb,below_step HB.out hb,by rw [hgm];exact below_size HB.out,GE.out⟩);clear hb hbm hgm))
   clear BK HB
   go_cut [] (fun wc=>∃ V:Mq.MV,Aside0 (MI w gm gb V ((evT l0).foldl putM []) wc))
   case first =>
    go_wp2_with fail
    go_loopg [19] l0.length (fun kx s19 wr=>∃ (x:Int) (i:Nat) (V:Mq.MV),s19 = .int .i64 x∧Aside0 (x=i∧i≤l0.length∧l0.length - i≤kx)∧Aside0 (MI w gm gb V ((evT (l0.take i)).foldl putM []) wr))
    case atStart=>exact ⟨0,0,[],rfl,⟨rfl,Nat.zero_le _,Nat.le_refl _⟩,HM⟩
    case round =>
     clear HM;obtain ⟨x,i,V,rfl,HX,HM⟩:=hrel;by_cases hlt:i<l0.length
     · have hxz:x<(l0.length:Int):=by have:=HX.out.1;omega
       have hx0:0≤x:=by have:=HX.out.1;omega
       obtain ⟨ad,A1,c1,e,ht0,ht1,hl1,hC1⟩:=at_T32 HR0.out x hx0 hxz;replace ht0:=hc (ra HM.out.bl) ht0;replace ht1:=hc (ra HM.out.bl) ht1;have HC1:=Aside0.mk hC1;have HL1:=Aside0.mk hl1;clear hl1 hC1;cases e
       have hx0':=eq_true hx0;have hxz':=eq_true hxz;have hTU:Aside0 (rd_T32 l0 x=l0[i]):=⟨by rw [HX.out.1];unfold rd_T32;simp [hlt]⟩
       generalize rd_T32 l0 x=tu at ht0 ht1 HC1 HL1 hTU
       go_upto_block 2 with (first | ((with_reducible refine gate_dst (N:=5) rfl ?_);refine be 5 #[.string ⟨#[]⟩, .slice none 0 0] 32 ?_;intro gt hgt w8 hbt hb;have HT:=ra hbt;have HMB:=ra (show MB w gm gb V _ gt 32 w8 from ⟨HM.out.below hb,⟨_,hbt⟩,by decide,by rw [hgt];exact below_size HM.out.bl⟩);obtain ⟨ht2,ht3,ht4,ht5⟩:=zc2 HT;clear hb hbt hgt))
       obtain ⟨w9,hw9⟩:∃ w9:World,w9=(w8.setCell ⟨gt,0,none⟩ (.string tu.f0)).setCell ⟨gt,1,none⟩ (.slice A1 tu.f1.length c1):=⟨_,rfl⟩;rw [← hw9];have HT9:Aside0 (w9.heap[gt]? = some (.cells #[.string tu.f0, .slice A1 tu.f1.length c1] 32 (0,0))):=⟨by rw [hw9];exact Z.bp HT⟩;have HM9:Aside0 (MB w gm gb V _ gt 32 w9):=⟨by rw [hw9];exact (HMB.out.put _ _).put _ _⟩;clear hw9 HT HMB ht2 ht3 ht4 ht5 ht0 ht1 HM
       go_wp2_with fail
       go_loopg [26] tu.f1.length (fun kx s26 wr2=>∃ (y:Int) (j:Nat) (V2:Mq.MV),s26 = .int .i64 y∧Aside0 (y=j∧j≤tu.f1.length∧tu.f1.length - j≤kx)∧Aside0 (MB w gm gb V2 ((evB tu.f0 0 (tu.f1.take j)).foldl putM ((evT (l0.take i)).foldl putM [])) gt 32 wr2)∧Aside0 (wr2.heap[gt]? = some (.cells #[.string tu.f0, .slice A1 tu.f1.length c1] 32 (0,0))))
       case atStart=>exact ⟨0,0,V,rfl,⟨rfl,Nat.zero_le _,Nat.le_refl _⟩,HM9,HT9⟩
       case round =>
        clear HM9 HT9;obtain ⟨y,j,V2,rfl,HY,HM,HT⟩:=hrel;by_cases hlt2:j<tu.f1.length
        · have hyz:y<(tu.f1.length:Int):=by have:=HY.out.1;omega
          have hy0:0≤y:=by have:=HY.out.1;omega
          obtain ⟨ad2,e,hb0,hb1,hb2,hb3,hb4,hb5⟩:=at_T75 HC1.out y hy0 hyz;cases e
          replace hb0:=hc (ra HM.out.i.bl) hb0;replace hb1:=hc (ra HM.out.i.bl) hb1;replace hb2:=hc (ra HM.out.i.bl) hb2;replace hb3:=hc (ra HM.out.i.bl) hb3;replace hb4:=hc (ra HM.out.i.bl) hb4;replace hb5:=hc (ra HM.out.i.bl) hb5;have hBX:Aside0 (rd_T75 tu.f1 y=tu.f1[j]):=⟨by rw [HY.out.1];unfold rd_T75;simp [hlt2]⟩
          generalize rd_T75 tu.f1 y=bx at hb0 hb1 hb2 hb3 hb4 hb5 hBX
          have hy0':=eq_true hy0;have hyz':=eq_true hyz
          go_upto_region 10 with (first | ((with_reducible refine gate_dst (N:=7) rfl ?_);refine be 7 #[.int .i64 0, .int .i64 0, .int .i64 0, .int .i64 0, .int .i64 0, .int .i64 0] 75 ?_;intro g7 hg7 w10 hbt hb;have HB7:=ra hbt;have HM7:=ra (show MB w gm gb V2 _ g7 75 w10 from ⟨HM.out.i.below hb,⟨_,hbt⟩,by decide,by rw [hg7];exact below_size HM.out.i.bl⟩);have HT7:=bb HT.out hb;have N7:=bn hg7 HT.out;obtain ⟨hz0,hz1,hz2,hz3,hz4,hz5,hf0,hf1,hf2,hf3,hf4,hf5⟩:=zc6 HB7;clear hb hbt hg7))
          obtain ⟨w11,hw11⟩:∃ w11:World,w11=(((((w10.setCell ⟨g7,0,none⟩ (.int .i64 bx.f0)).setCell ⟨g7,1,none⟩ (.int .i64 bx.f1)).setCell ⟨g7,2,none⟩ (.int .i64 bx.f2)).setCell ⟨g7,3,none⟩ (.int .i64 bx.f3)).setCell ⟨g7,4,none⟩ (.int .i64 bx.f4)).setCell ⟨g7,5,none⟩ (.int .i64 bx.f5):=⟨_,rfl⟩;rw [← hw11];have HB8:Aside0 (w11.heap[g7]? = some (.cells #[.int .i64 bx.f0, .int .i64 bx.f1, .int .i64 bx.f2, .int .i64 bx.f3, .int .i64 bx.f4, .int .i64 bx.f5] 75 (0,0))):=⟨by rw [hw11];exact Z.bp HB7⟩;have HM8:Aside0 (MB w gm gb V2 _ g7 75 w11):=⟨by rw [hw11];exact (((((HM7.out.put _ _).put _ _).put _ _).put _ _).put _ _).put _ _⟩;have HT8:Aside0 (w11.heap[gt]? = some (.cells #[.string tu.f0, .slice (some ad2) tu.f1.length c1] 32 (0,0))):=⟨by rw [hw11];exact Z.bk HT7⟩;have HMT:Aside0 (w.heap.size≤gt):=⟨HM.out.hb⟩;clear hw11 HB7 HM7 HT7 N7 HM HT hz0 hz1 hz2 hz3 hz4 hz5 hf0 hf1 hf2 hf3 hf4 hf5 hb0 hb1 hb2 hb3 hb4 hb5;obtain ⟨hz0,hz1,hz2,hz3,hz4,hz5,hf0,hf1,hf2,hf3,hf4,hf5⟩:=zc6 HB8
          clear hy0' hyz' hx0' hxz'
          go_upto_region 11 with fail
          obtain ⟨g8,hg8⟩:∃ g8:Nat,g8=w11.heap.size:=⟨_,rfl⟩;obtain ⟨w12,hw12⟩:∃ w12:World,w12=w11.alloc (.cells #[.int .i64 bx.f0, .int .i64 bx.f1] 77):=⟨_,rfl⟩;rw [← hw12,← hg8];have HS9:Aside0 (w12.heap[g8]? = some (.cells #[.int .i64 bx.f0, .int .i64 bx.f1] 77 (0,0))):=⟨by rw [hw12,hg8];exact (Go.MapKept.heap_alloc w11 _).1⟩;have hb12:Below w11.heap.size w11 w12:=by rw [hw12];exact below_alloc (Below.refl _ _) _
          have HM9:Aside0 (MI w gm gb V2 _ w12):=⟨HM8.out.i.below hb12⟩;have HT9:=bb HT8.out hb12;have HB9:=bb HB8.out hb12;have hkey:Mq.qidx (bx.f0,bx.f1) V2=Mq.qidx (bx.f0,bx.f1) _:=Mq.idx_keys HM9.out.r.1;have HK:=ra hkey;clear hkey;clear hw12 hg8 hb12 HB8 HM8 HT8 hz0 hz1 hz2 hz3 hz4 hz5 hf0 hf1 hf2 hf3 hf4 hf5;have HS:Aside0 (∀ c,(Mq.mval c ((evB tu.f0 0 (tu.f1.take j)).foldl putM ((evT (l0.take i)).foldl putM []))).length≤1000000):=⟨fun c=>Nat.le_trans (mval_le c _) (by rw [← List.foldl_append,sum_fold];have:=evT_pre l0 i j hlt;rw [← hTU.out] at this;have:=hlim.out.1.1;simp [sumM] at *;omega)⟩
          generalize hM2:(evB tu.f0 0 (tu.f1.take j)).foldl putM ((evT (l0.take i)).foldl putM [])=M2 at HM9 HK HS
          have HE2:=ra hM2;clear hM2;obtain ⟨hz0,hz1,hz2,hz3,hz4,hz5,hf0,hf1,hf2,hf3,hf4,hf5⟩:=zc6 HB9;obtain ⟨kz0,kz1,kf0,kf1⟩:=zc2 HS9;obtain ⟨kt0,kt1,kt2,kt3⟩:=zc2 HT9;clear hf0 hf1 hf2 hf3 hf4 hf5 kf0 kf1 kt2 kt3
          go_upto_region 12 with (first | ((with_reducible refine gate_dst (N:=51) rfl ?_);refine Kd.R_lit k80 (w0:=w) w.heap.size 80 ?hg (N:=51) ?hd (xs:=[(⟨bx.f4,bx.f5,bx.f2,bx.f3,tu.f0,y⟩:S80)]) (inner:=[.int .i64 bx.f4, .int .i64 bx.f5, .int .i64 bx.f2, .int .i64 bx.f3, .string tu.f0, .int .i64 y]) (ok:=fun _=>True) (okp:=fun _=>True) ?hr ?hp (fun _ hk=>hk) trivial HM9.out.bl (below_size HM9.out.bl) (by simp) ?_;(case hd=>rfl);(case hg=>rfl);(case hr=>first | (go_simp;done) | (go_simp;rfl));(case hp=>exact (Reps.c6 (show Kd.M k80 _ _ _ (⟨bx.f4,bx.f5,bx.f2,bx.f3,tu.f0,y⟩:S80) [.int .i64 bx.f4, .int .i64 bx.f5, .int .i64 bx.f2, .int .i64 bx.f3, .string tu.f0, .int .i64 y] from (k80_mkM _ _ _ (⟨bx.f4,bx.f5,bx.f2,bx.f3,tu.f0,y⟩:S80))) (Reps.none _ _)));intro v51 w13 ho51 hb51 hg51 hn51) | ((with_reducible refine gate_dst (N:=52) rfl ?_);refine Mq.ent_event rfl (.tmp 36) (.tmp 37) rfl (bx.f0,bx.f1) rfl rfl ((HM9.out.keepG hg51).m) ?_;intro w14 hm14 hg14;have HM14:=(HM9.out.keepG hg51).ent (bx.f0,bx.f1) hm14 hg14;have HR14:=(HM9.out.keepG hg51).row (bx.f0,bx.f1) hg14) | ((with_reducible refine gate_dst (N:=53) rfl ?_);obtain ⟨A51,c51,hv51⟩:=Kd.R_slice ho51;subst hv51;refine Kd.R_append_rows k80 (Rr:=k80.K w14) (w0:=w) w.heap.size rfl (.tmp 38) (.tmp 51) 78 80 _ _ rfl Tryz.underlying78 info80 rfl (by decide) (by decide) (Mq.qval (bx.f0,bx.f1) V2) (Mq.mval (bx.f0,bx.f1) M2) [(⟨bx.f4,bx.f5,bx.f2,bx.f3,tu.f0,y⟩:S80)] A51 1 c51 (fun _=>True) (fun _=>False) rfl rfl HR14 (Kd.R_reads' ((HM9.out.keepG hg51).lit ho51 hg14)).2.2 (slot_KM w14 _) (fun _ hk=>hk.elim) (fun _ _=>trivial) HM14.bl (below_size HM14.bl) (by have:=HS.out (bx.f0,bx.f1);omega) ?_;intro v53 w15 ho53 hb53 hg53 hat53;have HA:=HM14.app HK.out HR14 hg53 hat53 ho53) | (refine Mq.sto_event rfl (.tmp 36) (.tmp 54) (.tmp 53) rfl rfl (Mq.qidx (bx.f0,bx.f1) V2) v53 rfl rfl rfl HA.1 HA.2.1 ?_;intro w16 hm16 hg16))
          have HN:=HA.2.2 w16 hm16 hg16;have h13:=(HM9.out.keepG hg51);have t13:=(hg51.block gt (blk_lt HT9.out) (by simp)).trans HT9.out;have t14:=h13.cells t13 hg14;have t15:=row_cells HR14 t14 (by decide) hg53;have t16:=(hg16.block gt (blk_lt t15) (fun e=>by rw [Option.some.inj e,HA.1] at t15;cases t15)).trans t15;clear hm14 hg14 hg51 hn51 hb51 ho51 HR14 HM14 ho53 hb53 hg53 hat53 HA hm16 hg16 h13 t13 t14 t15 hz0 hz1 hz2 hz3 hz4 hz5 kz0 kz1 kt0 kt1;have HN:=ra HN;have HT16:=ra t16;clear t16
          go_wp2_with fail
          go_roundg (tu.f1.length - (j+1))
          case measure=>have:=HY.out.2.2;omega
          case rel =>
           have hts:tu.f1.length≤1000000:=by rw [hTU.out];exact hlim.out.1.2.2 _ (List.getElem_mem hlt)
           refine ⟨y+1,j+1,Mq.qset (Mq.qadd (bx.f0,bx.f1) V2) (Mq.qidx (bx.f0,bx.f1) V2) v53,by congr 1;unfold wrap64;omega,⟨by have:=HY.out.1;omega,by omega,Nat.le_refl _⟩,?_,HT16⟩
           have e:(evB tu.f0 0 (tu.f1.take (j+1))).foldl putM ((evT (l0.take i)).foldl putM [])=Mq.mapp M2 (bx.f0,bx.f1) ⟨bx.f4,bx.f5,bx.f2,bx.f3,tu.f0,y⟩:=by
            rw [evB_take _ _ _ _ hlt2,List.foldl_append,HE2.out,← hBX.out,HY.out.1,Nat.zero_add];rfl
           rw [e];exact ⟨HN.out,⟨_,HT16.out⟩,by decide,Nat.le_trans HMT.out (Nat.le_refl _)⟩
        · have hyz:¬ (y<(tu.f1.length:Int)):=by have:=HY.out.1;omega
          go_wp2_with fail
          go_roundg (l0.length - (i+1))
          case measure=>have:=HX.out.2.2;omega
          case rel =>
           refine ⟨x+1,i+1,V2,by congr 1;unfold wrap64;have:=HX.out;have:=hlim.out.1.2.1;omega,⟨by have:=HX.out.1;omega,by omega,Nat.le_refl _⟩,?_⟩;have e:tu.f1.take j=tu.f1:=List.take_of_length_le (by omega);have e2:(evT (l0.take (i+1))).foldl putM []=(evB tu.f0 0 tu.f1).foldl putM ((evT (l0.take i)).foldl putM []):=by rw [foldl_evT l0 i hlt,List.foldl_append,← hTU.out]
           rw [e2];rw [e] at HM;exact ⟨HM.out.i⟩
     · have hxz:¬ (x<(l0.length:Int)):=by have:=HX.out.1;omega
       go_wp2_with fail
       go_meet
       refine ⟨V,?_⟩;have e:l0.take i=l0:=List.take_of_length_le (by omega);rw [e] at HM;exact HM
   case rest =>
    clear HM;obtain ⟨V,HM⟩:=hcut;have hne0:Aside0 (∀ p∈(evT l0).foldl putM [],p.2≠[]):=⟨fold_ne _ _ (by simp)⟩
    have hno:Aside0 ((((evT l0).foldl putM []).map Prod.fst).Nodup∧∀ p∈(evT l0).foldl putM [],(p.2.map sk).Nodup):=by
     have h:=hlim.out.2
     unfold fin at h
     split at h
     · exact ⟨by assumption⟩
     · cases h
    have hsum:Aside0 (sumM ((evT l0).foldl putM [])≤1000000):=⟨by rw [sum_fold];have:=hlim.out.1.1;simp [sumM];omega⟩;have hfin:Aside0 (fin ((evT l0).foldl putM [])=some t323):=⟨hlim.out.2⟩;clear hlim HR0 HC0 A2
    generalize (evT l0).foldl putM []=M at HM hne0 hno hsum hfin
    go_upto_region 15 with (first | ((with_reducible refine gate_dst (N:=9) rfl ?_);refine be 9 #[.slice none 0 0] 28 ?_;intro go hgo w20 hbo hb;have HO:=ra hbo;have HM2:=ra (HM.out.below hb);have NG:=ra (show go≠gb from by rw [hgo];exact Nat.ne_of_gt (blk_lt HM.out.b));have LG:=ra (show w.heap.size≤go from by rw [hgo];exact below_size HM.out.bl);obtain ⟨ho0,ho1⟩:=zc1 HO;clear hb hbo hgo))
    obtain ⟨w21,hw21⟩:∃ w21:World,w21=w20.setCell ⟨go,0,none⟩ (.slice none 0 0):=⟨_,rfl⟩;rw [← hw21];have HM3:Aside0 (MI w gm gb V M w21):=⟨by rw [hw21];exact HM2.out.own HO.out (by decide) NG.out LG.out _ _⟩;have HO3:Aside0 (w21.heap[go]? = some (.cells #[.slice none 0 0] 28 (0,0))):=⟨by rw [hw21];exact Z.bp HO⟩;clear hw21 HM2 HO HM ho0 ho1
    go_upto_block 4 with (refine Mr.rng_event rfl (.tmp 58) rfl rfl HM3.out.m ?_;intro rr hrr w22 hbr hbelow)
    go_frame
    have HLS:Aside0 (LS w gm gb go rr V M #[] [] [] (.slice none 0 0) w22):=⟨⟨by rw [msrt_nil];exact HM3.out.below hbelow,hbr,blk_below HO3.out hbelow,Kd.R_nil _ _ _ _ _,LG.out,by rw [hrr];exact below_size HM3.out.bl,NG.out⟩⟩;clear hbr hbelow hrr HM3 HO3 NG LG
    go_wp2_with fail
    go_loopg [] V.length (fun kx wr=>∃ (seen:Array Nat) (vo:Value),Aside0 (seen.toList.Nodup∧(∀ i∈seen.toList,i<V.length)∧V.length - seen.size≤kx)∧Aside0 (LS w gm gb go rr V M seen seen.toList seen.toList vo wr))
    case atStart=>exact ⟨#[], .slice none 0 0,⟨by simp,by simp,by simp⟩,HLS⟩
    case round =>
     clear HLS;obtain ⟨seen,vo,HS,HL⟩:=hrel
     go_wp2_with (first | (at_next;refine Mr.nxt_event (seen:=seen) (V:=V) rfl (.tmp 59) rfl rfl HL.out.it HL.out.i.m ?_ ?_))
     rotate_left
     · intro i cx cy v hV hi w23 hr23 hg23 hs23 hen;have HL23:=HL.out.next hr23 hg23;have hi':i ∉ seen.toList:=by simpa using hi
       have hlen:=Mq.rows_len HL23.i.r;have hVl:i<V.length:=(List.getElem?_eq_some_iff.1 hV).1;have hMl:i<M.length:=by rw [hlen] at hVl;simpa [msrt] using hVl
       obtain ⟨q,hq⟩:∃ q,M[i]? = some q:=⟨M[i],List.getElem?_eq_getElem hMl⟩;have hq':(msrt M seen.toList)[i]? = some (q.1,q.2):=by rw [msrt_get,hq];simp [hi']
       have hkey:q.1=(cx,cy):=by
        have h:=congrArg (fun l=>l[i]?) HL23.i.r.1;simp only [List.getElem?_map,hV,hq',Option.map_some,Option.some.injEq] at h;exact h.symm
       have hrow:Kd.R k80 80 w23 w.heap.size (fun _=>True) v q.2:=Kd.R_mono (HL23.i.r.2.1 i _ _ hV hq') fun _ _=>trivial;have hqm:q∈M:=List.mem_of_getElem? hq
       obtain ⟨g,cap,hv⟩:∃ g cap,v = .slice (some ⟨g,0,none⟩) q.2.length cap:=by
        obtain ⟨hl,h⟩:=slots_own hrow
        rcases h with ⟨_,h⟩ | ⟨g,cap,_,h,_⟩
        · exact absurd (List.eq_nil_of_length_eq_zero h) (hne0.out q hqm)
        · exact ⟨g,cap,h⟩
       subst hv;have HQ:Aside0 (M[i]? = some q∧q∈M∧q.1=(cx,cy)∧V[i]? = some ((cx,cy), .slice (some ⟨g,0,none⟩) q.2.length cap)∧i ∉ seen.toList∧i<V.length):=⟨hq,hqm,hkey,hV,hi',hVl⟩;have HLN:=ra HL23;have HRW:=ra hrow;replace hen:(Instr.entry (.pointer (some ⟨rr,0,none⟩))).run Tryz.prog w23 = .ok (.tuple #[.agg #[.int .i64 cx, .int .i64 cy], .slice (some ⟨g,0,none⟩) q.2.length cap]) w23:=hen;clear hq hqm hkey hV hi hi' hVl hMl hlen hq' hrow HL23 HL hr23 hg23 hs23
       go_upto_region 18 with fail
       obtain ⟨b2,hb2⟩:∃ b2:Nat,b2=w23.heap.size+1:=⟨_,rfl⟩;obtain ⟨b1,hb1⟩:∃ b1:Nat,b1=w23.heap.size:=⟨_,rfl⟩;obtain ⟨w24,hw24⟩:∃ w24:World,w24=(w23.alloc (.cells #[.int .i64 cx, .int .i64 cy] 77)).alloc (.cells #[.slice (some ⟨g,0,none⟩) q.2.length cap] 78):=⟨_,rfl⟩;rw [← hw24,← hb2,← hb1];have hB1:w24.heap[b1]? = some (.cells #[.int .i64 cx, .int .i64 cy] 77 (0,0)):=by rw [hw24,hb1];exact blk_alloc (Go.MapKept.heap_alloc w23 _).1 _
       have hB2:w24.heap[b2]? = some (.cells #[.slice (some ⟨g,0,none⟩) q.2.length cap] 78 (0,0)):=by
        have h:=(Go.MapKept.heap_alloc (w23.alloc (.cells #[.int .i64 cx, .int .i64 cy] 77)) (.cells #[.slice (some ⟨g,0,none⟩) q.2.length cap] 78)).1;rw [show (w23.alloc (.cells #[.int .i64 cx, .int .i64 cy] 77)).heap.size=w23.heap.size+1 by simp] at h;rw [hw24,hb2];exact h
       have hb24:Below w23.heap.size w23 w24:=by rw [hw24];exact below_alloc (below_alloc (Below.refl _ _) _) _
       have hR24:=Kd.R_below HRW.out hb24;have HL24:=HLN.out.below hb24
       have hgl:g<w23.heap.size:=by
        obtain ⟨cs,hc⟩:=Kd.R_typed HRW.out g rfl;exact blk_lt hc
       have hn1:b1≠g:=by omega
       have hn2:b2≠g:=by omega
       have hcz:w24.cell? ⟨b2,0,none⟩=some (.slice (some ⟨g,0,none⟩) q.2.length cap):=(blk_cell hB2 0).trans rfl;have hql:q.2.length≤1000000:=Nat.le_trans (mem_sum HQ.out.2.1) hsum.out;have hC:=sortS (by omega) (hno.out.2 q HQ.out.2.1) hR24 hcz hn2;clear hb2 hb1 hw24 hb24 hen hgl;have K1:=ra hB1;have K2:=ra hB2;have K3:=ra hR24;have K4:=ra HL24;have K5:=ra hn1;have K6:=ra hn2;have K7:=ra hC;clear hB1 hB2 hR24 HL24 hn1 hn2 hC HLN HRW
       go_upto_region 19 with ((with_reducible refine gate_callee (f:=37) rfl ?_);refine gl (some 68) Tryz.func37 #[.iface 78 (.slice (some ⟨g,0,none⟩) q.2.length cap), .func (.func 38) #[] #[.pointer (some ⟨b2,0,none⟩)]] ?_;(with_reducible refine K7.out.mono ?_);rintro e w25 ⟨rfl,hg25,hr25⟩;refine ⟨_,rfl,?_⟩)
       have HL25:=ra (K4.out.sort HQ.out.2.2.2.2.1 HQ.out.2.2.2.1 HQ.out.1 hg25 hr25);have C1:Aside0 (w25.heap[b1]? = some (.cells #[.int .i64 cx, .int .i64 cy] 77 (0,0))):=⟨(hg25.block b1 (blk_lt K1.out) (by simpa using K5.out)).trans K1.out⟩;have C2:Aside0 (w25.heap[b2]? = some (.cells #[.slice (some ⟨g,0,none⟩) q.2.length cap] 78 (0,0))):=⟨(hg25.block b2 (blk_lt K2.out) (by simpa using K6.out)).trans K2.out⟩;have C3:=ra HL25.out.o;clear hg25 hr25 K1 K2 K3 K4 K5 K6 K7 hcz;obtain ⟨ca1,ca2,_,_⟩:=zc2 C1;obtain ⟨cb1,_⟩:=zc1 C2;obtain ⟨co1,_⟩:=zc1 C3;have hlm:V.length=M.length:=by have:=Mq.rows_len HL25.out.i.r;simpa [msrt] using this
       have hss:seen.size<V.length:=by have:=len_lt HS.out.1 HS.out.2.1 HQ.out.2.2.2.2.1 HQ.out.2.2.2.2.2;simpa using this
       have HV:Aside0 (V.length≤1000000∧seen.size<V.length):=⟨by have:=len_sum hne0.out;have:=hsum.out;omega,hss⟩;clear hlm hss
       go_upto_block 100 with ((with_reducible refine gate_dst (N:=78) rfl ?_);refine Kd.R_append (Kd.raw 3) (w0:=w) w.heap.size rfl (.tmp 70) (.tmp 77) 26 84 _ _ rfl Tryz.underlying26 info84 rfl (by decide) (by decide) vo (seen.toList.map fun i=>encC (tri V M i)) [.int .i64 cx, .int .i64 cy, .slice (some ⟨g,0,none⟩) q.2.length cap] [.int .i64 cx, .int .i64 cy, .slice (some ⟨g,0,none⟩) q.2.length cap] (fun _=>True) (fun k=>True∧some k≠vo.ownBlock) rfl rfl ⟨rfl,rfl,by intro u hu;simp at hu;rcases hu with rfl | rfl | rfl<;>rfl⟩ (fun _ hk=>hk) (fun _ _=>trivial) HL25.out.row HL25.out.i.bl (below_size HL25.out.i.bl) (by have:=HV.out;simp;omega) ?_;intro v78 w26 ho78 hb78 hg78 hat78;obtain ⟨A78,c78,hv78⟩:=Kd.R_slice ho78;subst hv78;have HA:=HL25.out.app hg78 ho78;have HG:=ra HA.1;obtain ⟨cg,cf⟩:=zc1 HG)
       have HN:=HA.2 (seen.push i).toList (by rw [Array.toList_push,List.map_append,List.map_singleton,enc_tri HQ.out.2.2.2.1]);rw [← Array.toList_push] at HN;have hz:(List.map (fun i=>encC (tri V M i)) seen.toList++[[Value.int .i64 cx,Value.int .i64 cy,Value.slice (some ⟨g,0,none⟩) q.2.length cap]]).length=seen.size+1:=by simp
       rw [hz] at HN;have HN:=ra HN;have hi':=HQ.out.2.2.2.2.1;have hiV:=HQ.out.2.2.2.2.2
       go_roundg (V.length - (seen.size+1))
       case measure=>have:=HS.out.2.2;have:=HV.out.2;omega
       case rel =>
        refine ⟨seen.push i, .slice A78 (seen.size+1) c78,⟨?_,?_,by simp⟩,HN⟩
        · rw [Array.toList_push]
          exact List.nodup_append.2 ⟨HS.out.1,by simp,fun a ha b hb=>by
            rw [List.mem_singleton] at hb
            rintro rfl
            exact hi' (hb▸ha)⟩
        · intro j hj;rw [Array.toList_push,List.mem_append,List.mem_singleton] at hj
          rcases hj with hj | rfl
          · exact HS.out.2.1 j hj
          · exact hiV
     · intro hall;have hF:=It.LS.fin HL.out HS.out.1 HS.out.2.1 (fun i hi=>by simpa using hall i hi) hfin.out
       have hlD:(seen.toList.map (tri V M)).length≤1000000000:=by
        have h1:=List.Nodup.length_le_of_subset (l₁:=seen.toList) (l₂:=List.range V.length) HS.out.1 (fun j hj=>by simpa using HS.out.2.1 j hj);have hlm:V.length=M.length:=by have:=Mq.rows_len HL.out.i.r;simpa [msrt] using this
        have h2:=len_sum hne0.out;have h3:=hsum.out
        simp at h1 ⊢
        omega
       obtain ⟨A,c,hv⟩:=Kd.R_slice HL.out.row;obtain ⟨n,hn⟩:∃ n,n=(List.map (fun i=>encC (tri V M i)) seen.toList).length:=⟨_,rfl⟩;rw [← hn] at hv;clear hn;subst hv;have hty:∀ k,(Value.slice A n c).ownBlock=some k→∃ cs,wr.heap[k]? = some (.cells cs 84 (0,0)):=fun k hk=>Kd.R_typed HL.out.row k hk
       have hC:=sortAny hlD hF.2.1 hF.1 ((blk_cell HL.out.o 0).trans rfl) (fun e=>by
        obtain ⟨cs,hc⟩:=hty go e.symm;rw [HL.out.o] at hc
        injection hc with hc
        injection hc with _ hc
        exact absurd hc (by decide))
       have hob:∀ k,(Value.slice A n c).ownBlock=some k→w.heap.size≤k:=fun k hk=>own_base hF.1 k hk;have hF2:=hF.2.2;have K1:=ra hC;have K2:=ra hF2;have K3:=ra hty;have K4:=ra hob;have hco:wr.cell? ⟨go,0,none⟩=some (.slice A n c):=(blk_cell HL.out.o 0).trans rfl;clear hC hF2 hF hlD hty hob hall
       go_upto_region 21 with ((with_reducible refine gate_callee (f:=37) rfl ?_);refine gl (some 84) Tryz.func37 #[.iface 26 (.slice A n c), .func (.func 39) #[] #[.pointer (some ⟨go,0,none⟩)]] ?_;(with_reducible refine K1.out.mono ?_);rintro e w27 ⟨rfl,hg27,ho27⟩;refine ⟨_,rfl,?_⟩)
       have hS:=K2.out _ hg27 ho27
       have hgo:w27.heap[go]? = some (.cells #[.slice A n c] 28 (0,0)):=(hg27.block go (blk_lt HL.out.o) (fun e=>by
        obtain ⟨cs,hc⟩:=K3.out go e.symm;rw [HL.out.o] at hc
        injection hc with hc
        injection hc with _ hc
        exact absurd hc (by decide))).trans HL.out.o
       have hgb:w27.heap[gb]? = some (.cells #[.slice none 0 0] 28 (0,0)):=(hg27.block gb (blk_lt HL.out.i.b) (fun e=>by
        obtain ⟨cs,hc⟩:=K3.out gb e.symm;rw [HL.out.i.b] at hc
        injection hc with hc
        injection hc with _ hc
        exact absurd hc (by decide))).trans HL.out.i.b
       have hbl:Below w.heap.size w w27:=HL.out.i.bl.grown hg27 HL.out.i.bl.size (fun j hj=>K4.out j hj);have L1:=ra hS;have L2:=ra hgo;have L3:=ra hgb;have L4:=ra hbl;clear hS hgo hgb hbl hg27 ho27 K1 K2 K3 K4 hco;obtain ⟨cg,cf⟩:=zc1 L2;obtain ⟨cb,cbf⟩:=zc1 L3
       go_wp2_with fail
       have hW:(w27.setCell ⟨gb,0,none⟩ (.slice A n c)).heap[gb]? = some (.cells #[.slice A n c] 28 (0,0)):=Z.bp L3;refine bodyPost_ret (results_cell_row rfl _ _ gb 28 #[.slice A n c] (0,0) _ rfl hW Tryz.underlying28 rfl (by kernel_rfl)) rfl ?_;exact ⟨_,re,Kd.S_mono (Kd.S_far (p:=⟨gb,0,none⟩) (Kd.S_types L1.out L3.out (by decide)) (fun _ hk=>hk.2) (.slice A n c)) (fun _ h_=>h_.1),below_set L4.out GE.out⟩
 · replace c3:=Bool.eq_false_iff.mpr c3;subst c3;have H1:(some ([]:List (S84)))=some r:=by rw [if_neg (show ¬ (false=true) by decide)] at H;exact H
   clear H;have H:=H1;clear H1;obtain rfl:=Option.some.inj H
   go_enter Tryz.func6,Tryz.ntmps6
   go_wp2_with (first | ((with_reducible refine gate_dst (N:=2) rfl ?_);refine be 2 #[.slice none 0 0] 28 ?_;intro gb321 hg w10 hbox hb;have _:=bs hb;have _:=ra (hbox);have _:=bz (w0:=w) hg;have _:=bz (w0:=w) hg;clear HB;rename_i HB BK321 GW321 GE321;clear hb hbox hg) | ((with_reducible refine gate_callee (f:=11) rfl ?_);refine gl (some 13) Tryz.func11 #[.slice A0 l0.length c0] ?_;(with_reducible refine (impl_ProbeSkyOk.calls k _ _ l0 false _ ?side1 ?side2 A2.out).mono ?_);(case side1=>exact sc HR0);(case side2=>exact HC0.out);rintro e w11 ⟨rfl,hb⟩;refine ⟨_,rfl,?_⟩;have _:=bb (bk BK321) hb;have _:=bs hb;clear BK321 HB;rename_i BK321 HB;(try clear hb);(try clear hb2);(try clear hk);(try clear hi);obtain ⟨hcz12_0,hfz12_0⟩:=zc1 BK321))
   refine bodyPost_ret (results_cell_row rfl _ _ gb321 28 #[.slice none 0 0] (0,0) _ rfl (bp BK321) Tryz.underlying28 rfl (by kernel_rfl)) rfl ?_;exact ⟨_,re,by first | exact Kd.S_nil _ _ _ _ _ | exact Kd.N_nil _ _ _ _ _,bq⟩
end Go.Proofs.YtgklmafdbgnohaaGreat.PA
end
