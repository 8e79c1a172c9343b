/- Contracts of the program's and the reference's functions (they began as prints of the kit's tool; shortened and joined). No condition beside what the Lean functions say. -/
import Derived.Test.YtgklmafdbgnohaaGreatXPAd4
import Derived.Test.YtgklmafdbgnohaaGreatXZCx5
import Derived.Test.YtgklmafdbgnohaaGreatXZCv8
set_option linter.unusedVariables false
set_option linter.unusedSimpArgs false
namespace Go.Proofs.YtgklmafdbgnohaaGreat.PA
open Go.RowKit Go.Proofs.YtgklmafdbgnohaaGreatW.PrintWords Go.Proofs.YtgklmafdbgnohaaGreatW.PrintLast Go.Proofs.YtgklmafdbgnohaaGreatW.PrintMore Go.Proofs.YtgklmafdbgnohaaGreat.Z
attribute [local go_sem] max2_int min2_int max_two min_two max_three min_three max_four min_four
set_option maxHeartbeats 8000000
set_option maxRecDepth 100000
theorem laws_wAbs.calls (a0 r:Int) (w:World) (h:laws_wAbs.f a0=some r) :
  Calls Tryz.prog 115 #[.int .i64 a0] w fun e w'=>e = .returned (.int .i64 r)∧Drawn0 w w':=by
 have H:=h;unfold laws_wAbs.f at H;clear h
 rcases td H with ⟨Z0,H⟩ | ⟨Z0,H⟩
 rotate_left;rotate_left
 all_goals
  obtain rfl:=Option.some.inj H
  go_enter Tryz.func115,Tryz.ntmps115
  go_wp2;go_ret
  exact ⟨rs,d0⟩
theorem laws_wNear.calls (k:Nat) (a0_0 a0_1 a0_2 a0_3 a0_4 a0_5 a1_0 a1_1 a1_2 a1_3 a1_4 a1_5 a2:Int) (r:Bool) (w:World) (h:laws_wNear.f k a0_0 a0_1 a0_2 a0_3 a0_4 a0_5 a1_0 a1_1 a1_2 a1_3 a1_4 a1_5 a2=some r) :
  Calls Tryz.prog 81 #[.agg #[.int .i64 a0_0, .int .i64 a0_1, .int .i64 a0_2, .int .i64 a0_3, .int .i64 a0_4, .int .i64 a0_5], .agg #[.int .i64 a1_0, .int .i64 a1_1, .int .i64 a1_2, .int .i64 a1_3, .int .i64 a1_4, .int .i64 a1_5], .int .i64 a2] w fun e w'=>e = .returned (.bool r)∧Below w.heap.size w w':=by
 have Z0:=Tryz.underlying75;have HB:=ra (Below.refl w.heap.size w);have H:=h;unfold laws_wNear.f at H;clear h;have Z1:=ra H;clear H
 go_enter Tryz.func81,Tryz.ntmps81
 go_upto_region 1 with (first | ((with_reducible refine gd 3 rfl ?_);refine bd 3 #[.int .i64 a0_0, .int .i64 a0_1, .int .i64 a0_2, .int .i64 a0_3, .int .i64 a0_4, .int .i64 a0_5] 75 ?_;intro Z2 Z3 HB Z4 Z5) | ((with_reducible refine gd 4 rfl ?_);refine bf 4 #[.int .i64 a1_0, .int .i64 a1_1, .int .i64 a1_2, .int .i64 a1_3, .int .i64 a1_4, .int .i64 a1_5] 75 ?_;intro Z6 Z7 hg hb HB Z8 Z9;have Z10:=bn hg (bk Z4);have Z11:=bm hg (bk Z4);replace Z4:=bb (bk Z4) hb;clear hg hb))
 (try simp only [Act.put,List.setIfInBounds_toArray,List.set_cons_zero,List.set_cons_succ])
 go_cut [47] (fun v47 wc=>∃ (kq:Nat) (x47_3:Bool),v47 = .bool x47_3∧Aside0 (laws_wNear.j0 kq x47_3 a0_0 a0_1 a0_2 a0_3 a0_4 a0_5 a1_0 a1_1 a1_2 a1_3 a1_4 a1_5=some r)∧Aside0 (kq≤k)∧Aside0 (wc.heap[Z2]? = some (.cells #[.int .i64 a0_0, .int .i64 a0_1, .int .i64 a0_2, .int .i64 a0_3, .int .i64 a0_4, .int .i64 a0_5] 75 (0,0)))∧Aside0 (wc.heap[Z6]? = some (.cells #[.int .i64 a1_0, .int .i64 a1_1, .int .i64 a1_2, .int .i64 a1_3, .int .i64 a1_4, .int .i64 a1_5] 75 (0,0)))∧Aside0 (Below w.heap.size w wc))
 case first =>
  have H:=Z1.out;clear Z1
  rcases td H with ⟨Z12,H⟩ | ⟨Z12,H⟩
  (first | rw [Z12] | (simp only [i64_w,i32_w];rw [Z12]) | skip)
  have H':=ra H;clear H;have Z13:=Z10.out;have Z14:=Z11.out;obtain ⟨Z15,Z16,Z17,Z18,Z19,Z20,Z21,Z22,Z23,Z24,Z25,Z26⟩:=zc6 Z4;rotate_left
  (first | rw [Z12] | (simp only [i64_w,i32_w];rw [Z12]) | skip)
  rcases td H with ⟨Z13,H⟩ | ⟨Z13,H⟩
  have H':=ra H;clear H;have Z14:=Z10.out;have Z15:=Z11.out;obtain ⟨Z16,Z17,Z18,Z19,Z20,Z21,Z22,Z23,Z24,Z25,Z26,Z27⟩:=zc6 Z4;rotate_left
  rcases td H with ⟨Z14,H⟩ | ⟨Z14,H⟩
  have H':=ra H;clear H;have Z15:=Z10.out;have Z16:=Z11.out;obtain ⟨Z17,Z18,Z19,Z20,Z21,Z22,Z23,Z24,Z25,Z26,Z27,Z28⟩:=zc6 Z4;obtain ⟨Z29,Z30,Z31,Z32,Z33,Z34,Z35,Z36,Z37,Z38,Z39,Z40⟩:=zc6 Z8;rotate_left
  rcases td H with ⟨Z15,H⟩ | ⟨Z15,H⟩
  have H':=ra H;clear H;have Z16:=Z10.out;have Z17:=Z11.out;obtain ⟨Z18,Z19,Z20,Z21,Z22,Z23,Z24,Z25,Z26,Z27,Z28,Z29⟩:=zc6 Z4;obtain ⟨Z30,Z31,Z32,Z33,Z34,Z35,Z36,Z37,Z38,Z39,Z40,Z41⟩:=zc6 Z8;rotate_left;obtain ⟨Z16,Z17,H⟩:=bo H
  rcases td H with ⟨Z18,H⟩ | ⟨Z18,H⟩
  ·have H':=ra H;clear H;have Z19:=Z10.out;have Z20:=Z11.out;obtain ⟨Z21,Z22,Z23,Z24,Z25,Z26,Z27,Z28,Z29,Z30,Z31,Z32⟩:=zc6 Z4;obtain ⟨Z33,Z34,Z35,Z36,Z37,Z38,Z39,Z40,Z41,Z42,Z43,Z44⟩:=zc6 Z8
   go_wp2_with (first | (go_at_call 115;(with_reducible refine (laws_wAbs.calls _ _ _ Z17.out).mono ?_);rintro e w' ⟨rfl,⟨nd,rfl⟩⟩))
   go_meet
   case rel=>exact ⟨_,_,rs,H',⟨by first | omega | exact Nat.le_refl _⟩,⟨bk Z4⟩,⟨bk Z8⟩,⟨bq⟩⟩
  ·obtain ⟨Z19,Z20,H⟩:=bo H;have H':=ra H;clear H;have Z21:=Z10.out;have Z22:=Z11.out;obtain ⟨Z23,Z24,Z25,Z26,Z27,Z28,Z29,Z30,Z31,Z32,Z33,Z34⟩:=zc6 Z4;obtain ⟨Z35,Z36,Z37,Z38,Z39,Z40,Z41,Z42,Z43,Z44,Z45,Z46⟩:=zc6 Z8
   go_wp2_with (first | (go_at_call 115;(with_reducible refine (laws_wAbs.calls _ _ _ Z17.out).mono ?_);rintro e w' ⟨rfl,⟨nd,rfl⟩⟩) | (go_at_call 115;(with_reducible refine (laws_wAbs.calls _ _ _ Z20.out).mono ?_);rintro e w' ⟨rfl,⟨nd,rfl⟩⟩))
   go_meet
   case rel=>exact ⟨_,_,rs,H',⟨by first | omega | exact Nat.le_refl _⟩,⟨bk Z4⟩,⟨bk Z8⟩,⟨bq⟩⟩
  all_goals
   go_wp2;go_meet
   case rel=>exact ⟨_,_,rs,H',⟨by first | omega | exact Nat.le_refl _⟩,⟨bk Z4⟩,⟨bk Z8⟩,⟨bq⟩⟩
 case rest =>
  clear Z1;obtain ⟨kq,Z12,rfl,HA,Z13,Z4,Z8,HB⟩:=hcut
  cases kq with
  | zero=>exact absurd HA.out (by simp [laws_wNear.j0])
  | succ Z14 =>
   have H:=HA.out;clear HA;simp only [laws_wNear.j0] at H
   rcases ud H with ⟨rfl,Z15⟩ | ⟨rfl,Z15⟩<;>have H:=Z15
   ·obtain rfl:=Option.some.inj H;go_wp2;go_ret
    exact ⟨re,bq⟩
   ·have H':=ra H;clear H;have Z16:=Z10.out;have Z17:=Z11.out;obtain ⟨Z18,Z19,Z20,Z21,Z22,Z23,Z24,Z25,Z26,Z27,Z28,Z29⟩:=zc6 Z4;go_wp2
    go_loopg [7] Z14 (fun kq v7 w'=>∃ (x7_2:Int),v7 = .int .i64 x7_2∧Aside0 (laws_wNear.l0 kq x7_2 a0_0 a0_1 a0_2 a0_3 a0_4 a0_5 a1_0 a1_1 a1_2 a1_3 a1_4 a1_5=some r)∧Aside0 (kq≤Z14)∧Aside0 (w'.heap[Z2]? = some (.cells #[.int .i64 a0_0, .int .i64 a0_1, .int .i64 a0_2, .int .i64 a0_3, .int .i64 a0_4, .int .i64 a0_5] 75 (0,0)))∧Aside0 (w'.heap[Z6]? = some (.cells #[.int .i64 a1_0, .int .i64 a1_1, .int .i64 a1_2, .int .i64 a1_3, .int .i64 a1_4, .int .i64 a1_5] 75 (0,0)))∧Aside0 (Below w.heap.size w w'))
    case atStart=>exact ⟨_,rs,H',⟨Nat.le_refl _⟩,⟨bk Z4⟩,⟨bk Z8⟩,⟨bq⟩⟩
    case round =>
     clear H'
     try clear Z18
     try clear Z19
     try clear Z20
     try clear Z21
     try clear Z22
     try clear Z23
     try clear Z24
     try clear Z25
     try clear Z26
     try clear Z27
     try clear Z28
     try clear Z29
     obtain ⟨Z30,rfl,HA,Z31,Z4,Z8,HB⟩:=hrel
     cases gk with
     | zero=>exact absurd HA.out (by simp [laws_wNear.l0])
     | succ Z32 =>
      have H:=HA.out;clear HA;simp only [laws_wNear.l0] at H
      rcases td H with ⟨Z33,H⟩ | ⟨Z33,H⟩
      rcases td H with ⟨Z34,H⟩ | ⟨Z34,H⟩
      rcases td H with ⟨Z35,H⟩ | ⟨Z35,H⟩
      ·obtain rfl:=Option.some.inj H;have Z36:=Z10.out;have Z37:=Z11.out;obtain ⟨Z38,Z39,Z40,Z41,Z42,Z43,Z44,Z45,Z46,Z47,Z48,Z49⟩:=zc6 Z4;obtain ⟨Z50,Z51,Z52,Z53,Z54,Z55,Z56,Z57,Z58,Z59,Z60,Z61⟩:=zc6 Z8;go_wp2;go_ret
       exact ⟨re,bq⟩
      rotate_left;rotate_left
      ·obtain rfl:=Option.some.inj H;have Z34:=Z10.out;have Z35:=Z11.out;obtain ⟨Z36,Z37,Z38,Z39,Z40,Z41,Z42,Z43,Z44,Z45,Z46,Z47⟩:=zc6 Z4;go_wp2;go_ret
       exact ⟨re,bq⟩
      all_goals
       have H':=ra H;clear H;have Z36:=Z10.out;have Z37:=Z11.out;obtain ⟨Z38,Z39,Z40,Z41,Z42,Z43,Z44,Z45,Z46,Z47,Z48,Z49⟩:=zc6 Z4;obtain ⟨Z50,Z51,Z52,Z53,Z54,Z55,Z56,Z57,Z58,Z59,Z60,Z61⟩:=zc6 Z8;go_wp2
       go_roundg Z32
       case measure=>have:=Z13.out;have:=Z31.out;omega
       case rel=>exact ⟨_,rs,H',⟨by have:=Z13.out;have:=Z31.out;omega⟩,⟨bk Z4⟩,⟨bk Z8⟩,⟨bq⟩⟩
def laws_wNearAt.T7:Bool × List (List Nat × List Nat):=(true,[([],[]),([0],[0]),([],[]),([1,2],[1,2]),([3],[3]),([],[]),([5],[5]),([],[]),([6,7],[6,7]),([8],[8]),([],[]),([4,9,10],[4,9,10])])
def laws_wNearAt.B7:List Nat:=[0,1,0,7,15,0,32,0,224,480,0,2047]
theorem laws_wNearAt.tab7:rtab .any (opsOf Tryz.f56 7)=laws_wNearAt.T7:=by kernel_rfl
theorem laws_wNearAt.bits7:waitsOk laws_wNearAt.T7.2 laws_wNearAt.B7=true:=by kernel_rfl
theorem laws_wNearAt.calls (k:Nat) (a0_0:ByteArray) (A0_1:Option Addr) (c0_1:Nat) (l0_1:List (S75)) (a1_0:ByteArray) (A1_1:Option Addr) (c1_1:Nat) (l1_1:List (S75)) (a2:Int) (r:Bool) (w:World) (hr0_1:Kd.C k75 w A0_1 l0_1.length l0_1) (hc0_1:l0_1.length≤c0_1) (hr1_1:Kd.C k75 w A1_1 l1_1.length l1_1) (hc1_1:l1_1.length≤c1_1) (h:laws_wNearAt.f k a0_0 l0_1 a1_0 l1_1 a2=some r) :
  Calls Tryz.prog 56 #[.agg #[.string a0_0, .slice A0_1 l0_1.length c0_1], .agg #[.string a1_0, .slice A1_1 l1_1.length c1_1], .int .i64 a2] w fun e w'=>e = .returned (.bool r)∧Below w.heap.size w w':=by
 have Z0:=Tryz.underlying32;have Z1:=Tryz.underlying75;have Z2:=ra hr0_1;have Z3:=ra hc0_1;clear hr0_1 hc0_1;have Z4:=ra hr1_1;have Z5:=ra hc1_1;clear hr1_1 hc1_1;have HB:=ra (Below.refl w.heap.size w);have H:=h;unfold laws_wNearAt.f at H;clear h;have H':=ra H;clear H
 go_enter Tryz.func56,Tryz.ntmps56
 go_wp2_with (first | ((with_reducible refine gd 3 rfl ?_);refine bd 3 #[.string a0_0, .slice A0_1 l0_1.length c0_1] 32 ?_;intro Z6 Z7 HB Z8 Z9) | ((with_reducible refine gd 4 rfl ?_);refine bf 4 #[.string a1_0, .slice A1_1 l1_1.length c1_1] 32 ?_;intro Z10 Z11 hg hb HB Z12 Z13;have Z14:=bn hg (bk Z8);have Z15:=bm hg (bk Z8);replace Z8:=bb (bk Z8) hb;clear hg hb))
 go_loopg [7] k (fun kq v7 w'=>∃ (x7_1:Int),v7 = .int .i64 x7_1∧Aside0 (laws_wNearAt.l0 kq a2 x7_1 a0_0 l0_1 a1_0 l1_1=some r)∧Aside0 (kq≤k)∧Aside0 (w'.heap[Z6]? = some (.cells #[.string a0_0,(.slice A0_1 l0_1.length c0_1)] 32 (0,0)))∧Aside0 (w'.heap[Z10]? = some (.cells #[.string a1_0,(.slice A1_1 l1_1.length c1_1)] 32 (0,0)))∧Aside0 (Below w.heap.size w w'))
 case atStart=>exact ⟨(0),rs,H',⟨Nat.le_refl _⟩,⟨bk Z8⟩,⟨bk Z12⟩,⟨bq⟩⟩
 case round =>
  clear H';obtain ⟨Z16,rfl,HA,Z17,Z8,Z12,HB⟩:=hrel
  cases gk with
  | zero=>exact absurd HA.out (by simp [laws_wNearAt.l0])
  | succ Z18 =>
   have H:=HA.out;clear HA;simp only [laws_wNearAt.l0] at H
   rcases td H with ⟨Z19,H⟩ | ⟨Z19,H⟩
   ·have H':=ra H;clear H;have Z20:=Z14.out;have Z21:=Z15.out;obtain ⟨Z22,Z23,Z24,Z25⟩:=zc2 Z8;go_wp2
    go_loopg [8] Z18 (fun kq v8 w'=>∃ (x8_2:Int),v8 = .int .i64 x8_2∧Aside0 (laws_wNearAt.l1 kq a2 Z16 x8_2 a0_0 l0_1 a1_0 l1_1=some r)∧Aside0 (kq≤Z18)∧Aside0 (w'.heap[Z6]? = some (.cells #[.string a0_0,(.slice A0_1 l0_1.length c0_1)] 32 (0,0)))∧Aside0 (w'.heap[Z10]? = some (.cells #[.string a1_0,(.slice A1_1 l1_1.length c1_1)] 32 (0,0)))∧Aside0 (Below w.heap.size w w'))
    case atStart=>exact ⟨_,rs,H',⟨Nat.le_refl _⟩,⟨bk Z8⟩,⟨bk Z12⟩,⟨bq⟩⟩
    case round =>
     clear H'
     try clear Z19
     try clear Z22
     try clear Z23
     try clear Z24
     try clear Z25
     obtain ⟨Z26,rfl,HA,Z27,Z8,Z12,HB⟩:=hrel
     cases gk with
     | zero=>exact absurd HA.out (by simp [laws_wNearAt.l1])
     | succ Z28 =>
      have H:=HA.out;clear HA;simp only [laws_wNearAt.l1] at H
      rcases td H with ⟨Z29,H⟩ | ⟨Z29,H⟩
      ·obtain ⟨Z30,H⟩:=tn H;obtain ⟨Z31,H⟩:=tn H;obtain ⟨Z32,H⟩:=tn H;obtain ⟨Z33,Z34,H⟩:=bo H
       rcases ud H with ⟨rfl,Z35⟩ | ⟨rfl,Z35⟩<;>have H:=Z35
       ·obtain rfl:=Option.some.inj H;have Z36:=Z15.out;have Z37:=Z14.out;obtain ⟨Z38,Z39,Z40,Z41⟩:=zc2 Z12
        try go_wp2
        have _:=ra (blk_drew Z8.out);have _:=ra (blk_drew Z12.out);have _:=ra (below_drew1 HB.out);clear Z8 Z12 HB
        rename_i Z8 Z12 HB
        have Z42:0≤(Z16:Int):=od;have Z43:Z16<(l0_1.length:Int):=od;obtain ⟨Z44,Z45,Z46,Z47,Z48,Z49,Z50,Z51⟩:=at_T75 Z2.out Z16 Z42 Z43;have Z52:=Z51;have Z53:=Z50;have Z54:=Z49;have Z55:=Z48;have Z56:=Z47;have Z57:=Z46;cases Z45
        replace Z46:=hc HB Z46;replace Z47:=hc HB Z47;replace Z48:=hc HB Z48;replace Z49:=hc HB Z49;replace Z50:=hc HB Z50;replace Z51:=hc HB Z51;replace Z42:=eq_true Z42;replace Z43:=eq_true Z43;have Z58:0≤(Z26:Int):=od;have Z59:Z26<(l1_1.length:Int):=od;obtain ⟨Z60,Z61,Z62,Z63,Z64,Z65,Z66,Z67⟩:=at_T75 Z4.out Z26 Z58 Z59;have Z68:=Z67;have Z69:=Z66;have Z70:=Z65;have Z71:=Z64;have Z72:=Z63;have Z73:=Z62;cases Z61
        replace Z62:=hc HB Z62;replace Z63:=hc HB Z63;replace Z64:=hc HB Z64;replace Z65:=hc HB Z65;replace Z66:=hc HB Z66;replace Z67:=hc HB Z67;replace Z58:=eq_true Z58;replace Z59:=eq_true Z59
        refine start_ (n:=12) (S:=fun w'=>w'.cell? ⟨Z6,0,none⟩=some (.string a0_0)∧w'.cell? ⟨Z6,1,none⟩=some (.slice (some Z44) l0_1.length c0_1)∧w'.cell? ⟨Z10,0,none⟩=some (.string a1_0)∧w'.cell? ⟨Z10,1,none⟩=some (.slice (some Z60) l1_1.length c1_1)∧w'.cell? (Z44.add ((Z16).toNat * 6))=some (.int .i64 ((rd_T75 l0_1 Z16).f0))∧w'.cell? ⟨(Z44.add ((Z16).toNat * 6)).block,(Z44.add ((Z16).toNat * 6)).off+1,none⟩=some (.int .i64 ((rd_T75 l0_1 Z16).f1))∧w'.cell? ⟨(Z44.add ((Z16).toNat * 6)).block,(Z44.add ((Z16).toNat * 6)).off+2,none⟩=some (.int .i64 ((rd_T75 l0_1 Z16).f2))∧w'.cell? ⟨(Z44.add ((Z16).toNat * 6)).block,(Z44.add ((Z16).toNat * 6)).off+3,none⟩=some (.int .i64 ((rd_T75 l0_1 Z16).f3))∧w'.cell? ⟨(Z44.add ((Z16).toNat * 6)).block,(Z44.add ((Z16).toNat * 6)).off+4,none⟩=some (.int .i64 ((rd_T75 l0_1 Z16).f4))∧w'.cell? ⟨(Z44.add ((Z16).toNat * 6)).block,(Z44.add ((Z16).toNat * 6)).off+5,none⟩=some (.int .i64 ((rd_T75 l0_1 Z16).f5))∧w'.cell? (Z60.add ((Z26).toNat * 6))=some (.int .i64 ((rd_T75 l1_1 Z26).f0))∧w'.cell? ⟨(Z60.add ((Z26).toNat * 6)).block,(Z60.add ((Z26).toNat * 6)).off+1,none⟩=some (.int .i64 ((rd_T75 l1_1 Z26).f1))∧w'.cell? ⟨(Z60.add ((Z26).toNat * 6)).block,(Z60.add ((Z26).toNat * 6)).off+2,none⟩=some (.int .i64 ((rd_T75 l1_1 Z26).f2))∧w'.cell? ⟨(Z60.add ((Z26).toNat * 6)).block,(Z60.add ((Z26).toNat * 6)).off+3,none⟩=some (.int .i64 ((rd_T75 l1_1 Z26).f3))∧w'.cell? ⟨(Z60.add ((Z26).toNat * 6)).block,(Z60.add ((Z26).toNat * 6)).off+4,none⟩=some (.int .i64 ((rd_T75 l1_1 Z26).f4))∧w'.cell? ⟨(Z60.add ((Z26).toNat * 6)).block,(Z60.add ((Z26).toNat * 6)).off+5,none⟩=some (.int .i64 ((rd_T75 l1_1 Z26).f5))) (ds:=[]) (bl 12 0) (by kernel_rfl) rfl rfl ⟨(blk_cell Z8.out 0).trans rfl,(blk_cell Z8.out 1).trans rfl,(blk_cell Z12.out 0).trans rfl,(blk_cell Z12.out 1).trans rfl,(hc HB Z57),(hc HB Z56),(hc HB Z55),(hc HB Z54),(hc HB Z53),(hc HB Z52),(hc HB Z73),(hc HB Z72),(hc HB Z71),(hc HB Z70),(hc HB Z69),(hc HB Z68)⟩ (fun hHeld=>?_);refine with_tabW laws_wNearAt.tab7 laws_wNearAt.bits7 (fun HT_ HW_=>?_)
        generalize wr.drew=Z74 at Z8 Z12 HB Z46 Z47 Z48 Z49 Z50 Z51 Z62 Z63 Z64 Z65 Z66 Z67 hHeld ⊢
        refine pu 0 23 (bl 12 1) ?_;refine pu 2 25 (bl 12 5) ?_;refine pu 5 28 (bl 12 37) ?_;refine pu 7 30 (bl 12 165) ?_;refine pu 10 33 (bl 12 1189) ?_;refine tk 1 24 (bl 12 1191) ?_ hHeld;refine pu 3 26 (bl 12 1199) ?_;refine tk 4 27 (bl 12 1215) ?_ hHeld;refine tk 6 29 (bl 12 1279) ?_ hHeld;refine pu 8 31 (bl 12 1535) ?_;refine tk 9 32 (bl 12 2047) ?_ hHeld;refine oe 11 34 (bl 12 4095) (fun K hK=>?_);refine gs Tryz.func81 #[.agg #[.int .i64 ((rd_T75 l0_1 Z16).f0), .int .i64 ((rd_T75 l0_1 Z16).f1), .int .i64 ((rd_T75 l0_1 Z16).f2), .int .i64 ((rd_T75 l0_1 Z16).f3), .int .i64 ((rd_T75 l0_1 Z16).f4), .int .i64 ((rd_T75 l0_1 Z16).f5)], .agg #[.int .i64 ((rd_T75 l1_1 Z26).f0), .int .i64 ((rd_T75 l1_1 Z26).f1), .int .i64 ((rd_T75 l1_1 Z26).f2), .int .i64 ((rd_T75 l1_1 Z26).f3), .int .i64 ((rd_T75 l1_1 Z26).f4), .int .i64 ((rd_T75 l1_1 Z26).f5)], .int .i64 a2] ?_
        with_reducible refine (laws_wNear.calls Z28 ((rd_T75 l0_1 Z16).f0) ((rd_T75 l0_1 Z16).f1) ((rd_T75 l0_1 Z16).f2) ((rd_T75 l0_1 Z16).f3) ((rd_T75 l0_1 Z16).f4) ((rd_T75 l0_1 Z16).f5) ((rd_T75 l1_1 Z26).f0) ((rd_T75 l1_1 Z26).f1) ((rd_T75 l1_1 Z26).f2) ((rd_T75 l1_1 Z26).f3) ((rd_T75 l1_1 Z26).f4) ((rd_T75 l1_1 Z26).f5) a2 true _ Z34.out).mono ?_
        rintro e Z75 ⟨rfl,hb⟩
        refine ⟨_,rfl,?_⟩;have _:=bb (bk Z8) hb;have _:=bb (bk Z12) hb;have _:=bs hb;clear Z8 Z12 HB
        rename_i Z8 Z12 HB
        (try clear hb)
        refine hK.out _ _ ⟨(blk_cell Z8.out 0).trans rfl,(blk_cell Z8.out 1).trans rfl,(blk_cell Z12.out 0).trans rfl,(blk_cell Z12.out 1).trans rfl,(hc HB Z57),(hc HB Z56),(hc HB Z55),(hc HB Z54),(hc HB Z53),(hc HB Z52),(hc HB Z73),(hc HB Z72),(hc HB Z71),(hc HB Z70),(hc HB Z69),(hc HB Z68)⟩ (fun hHeld=>?_);clear hK K;refine nm 34 ?_;refine done_ (done_of HT_.out (by kernel_rfl)) ?_
        try go_wp2
        go_ret
        exact ⟨re,bq⟩
       ·have H':=ra H;clear H;have Z36:=Z15.out;have Z37:=Z14.out;obtain ⟨Z38,Z39,Z40,Z41⟩:=zc2 Z12
        try go_wp2
        have _:=ra (blk_drew Z8.out);have _:=ra (blk_drew Z12.out);have _:=ra (below_drew1 HB.out);clear Z8 Z12 HB
        rename_i Z8 Z12 HB
        have Z42:0≤(Z16:Int):=od;have Z43:Z16<(l0_1.length:Int):=od;obtain ⟨Z44,Z45,Z46,Z47,Z48,Z49,Z50,Z51⟩:=at_T75 Z2.out Z16 Z42 Z43;have Z52:=Z51;have Z53:=Z50;have Z54:=Z49;have Z55:=Z48;have Z56:=Z47;have Z57:=Z46;cases Z45
        replace Z46:=hc HB Z46;replace Z47:=hc HB Z47;replace Z48:=hc HB Z48;replace Z49:=hc HB Z49;replace Z50:=hc HB Z50;replace Z51:=hc HB Z51;replace Z42:=eq_true Z42;replace Z43:=eq_true Z43;have Z58:0≤(Z26:Int):=od;have Z59:Z26<(l1_1.length:Int):=od;obtain ⟨Z60,Z61,Z62,Z63,Z64,Z65,Z66,Z67⟩:=at_T75 Z4.out Z26 Z58 Z59;have Z68:=Z67;have Z69:=Z66;have Z70:=Z65;have Z71:=Z64;have Z72:=Z63;have Z73:=Z62;cases Z61
        replace Z62:=hc HB Z62;replace Z63:=hc HB Z63;replace Z64:=hc HB Z64;replace Z65:=hc HB Z65;replace Z66:=hc HB Z66;replace Z67:=hc HB Z67;replace Z58:=eq_true Z58;replace Z59:=eq_true Z59
        refine start_ (n:=12) (S:=fun w'=>w'.cell? ⟨Z6,0,none⟩=some (.string a0_0)∧w'.cell? ⟨Z6,1,none⟩=some (.slice (some Z44) l0_1.length c0_1)∧w'.cell? ⟨Z10,0,none⟩=some (.string a1_0)∧w'.cell? ⟨Z10,1,none⟩=some (.slice (some Z60) l1_1.length c1_1)∧w'.cell? (Z44.add ((Z16).toNat * 6))=some (.int .i64 ((rd_T75 l0_1 Z16).f0))∧w'.cell? ⟨(Z44.add ((Z16).toNat * 6)).block,(Z44.add ((Z16).toNat * 6)).off+1,none⟩=some (.int .i64 ((rd_T75 l0_1 Z16).f1))∧w'.cell? ⟨(Z44.add ((Z16).toNat * 6)).block,(Z44.add ((Z16).toNat * 6)).off+2,none⟩=some (.int .i64 ((rd_T75 l0_1 Z16).f2))∧w'.cell? ⟨(Z44.add ((Z16).toNat * 6)).block,(Z44.add ((Z16).toNat * 6)).off+3,none⟩=some (.int .i64 ((rd_T75 l0_1 Z16).f3))∧w'.cell? ⟨(Z44.add ((Z16).toNat * 6)).block,(Z44.add ((Z16).toNat * 6)).off+4,none⟩=some (.int .i64 ((rd_T75 l0_1 Z16).f4))∧w'.cell? ⟨(Z44.add ((Z16).toNat * 6)).block,(Z44.add ((Z16).toNat * 6)).off+5,none⟩=some (.int .i64 ((rd_T75 l0_1 Z16).f5))∧w'.cell? (Z60.add ((Z26).toNat * 6))=some (.int .i64 ((rd_T75 l1_1 Z26).f0))∧w'.cell? ⟨(Z60.add ((Z26).toNat * 6)).block,(Z60.add ((Z26).toNat * 6)).off+1,none⟩=some (.int .i64 ((rd_T75 l1_1 Z26).f1))∧w'.cell? ⟨(Z60.add ((Z26).toNat * 6)).block,(Z60.add ((Z26).toNat * 6)).off+2,none⟩=some (.int .i64 ((rd_T75 l1_1 Z26).f2))∧w'.cell? ⟨(Z60.add ((Z26).toNat * 6)).block,(Z60.add ((Z26).toNat * 6)).off+3,none⟩=some (.int .i64 ((rd_T75 l1_1 Z26).f3))∧w'.cell? ⟨(Z60.add ((Z26).toNat * 6)).block,(Z60.add ((Z26).toNat * 6)).off+4,none⟩=some (.int .i64 ((rd_T75 l1_1 Z26).f4))∧w'.cell? ⟨(Z60.add ((Z26).toNat * 6)).block,(Z60.add ((Z26).toNat * 6)).off+5,none⟩=some (.int .i64 ((rd_T75 l1_1 Z26).f5))) (ds:=[]) (bl 12 0) (by kernel_rfl) rfl rfl ⟨(blk_cell Z8.out 0).trans rfl,(blk_cell Z8.out 1).trans rfl,(blk_cell Z12.out 0).trans rfl,(blk_cell Z12.out 1).trans rfl,(hc HB Z57),(hc HB Z56),(hc HB Z55),(hc HB Z54),(hc HB Z53),(hc HB Z52),(hc HB Z73),(hc HB Z72),(hc HB Z71),(hc HB Z70),(hc HB Z69),(hc HB Z68)⟩ (fun hHeld=>?_);refine with_tabW laws_wNearAt.tab7 laws_wNearAt.bits7 (fun HT_ HW_=>?_)
        generalize wr.drew=Z74 at Z8 Z12 HB Z46 Z47 Z48 Z49 Z50 Z51 Z62 Z63 Z64 Z65 Z66 Z67 hHeld ⊢
        refine pu 0 23 (bl 12 1) ?_;refine pu 2 25 (bl 12 5) ?_;refine pu 5 28 (bl 12 37) ?_;refine pu 7 30 (bl 12 165) ?_;refine pu 10 33 (bl 12 1189) ?_;refine tk 1 24 (bl 12 1191) ?_ hHeld;refine pu 3 26 (bl 12 1199) ?_;refine tk 4 27 (bl 12 1215) ?_ hHeld;refine tk 6 29 (bl 12 1279) ?_ hHeld;refine pu 8 31 (bl 12 1535) ?_;refine tk 9 32 (bl 12 2047) ?_ hHeld;refine oe 11 34 (bl 12 4095) (fun K hK=>?_);refine gs Tryz.func81 #[.agg #[.int .i64 ((rd_T75 l0_1 Z16).f0), .int .i64 ((rd_T75 l0_1 Z16).f1), .int .i64 ((rd_T75 l0_1 Z16).f2), .int .i64 ((rd_T75 l0_1 Z16).f3), .int .i64 ((rd_T75 l0_1 Z16).f4), .int .i64 ((rd_T75 l0_1 Z16).f5)], .agg #[.int .i64 ((rd_T75 l1_1 Z26).f0), .int .i64 ((rd_T75 l1_1 Z26).f1), .int .i64 ((rd_T75 l1_1 Z26).f2), .int .i64 ((rd_T75 l1_1 Z26).f3), .int .i64 ((rd_T75 l1_1 Z26).f4), .int .i64 ((rd_T75 l1_1 Z26).f5)], .int .i64 a2] ?_
        with_reducible refine (laws_wNear.calls Z28 ((rd_T75 l0_1 Z16).f0) ((rd_T75 l0_1 Z16).f1) ((rd_T75 l0_1 Z16).f2) ((rd_T75 l0_1 Z16).f3) ((rd_T75 l0_1 Z16).f4) ((rd_T75 l0_1 Z16).f5) ((rd_T75 l1_1 Z26).f0) ((rd_T75 l1_1 Z26).f1) ((rd_T75 l1_1 Z26).f2) ((rd_T75 l1_1 Z26).f3) ((rd_T75 l1_1 Z26).f4) ((rd_T75 l1_1 Z26).f5) a2 false _ Z34.out).mono ?_
        rintro e Z75 ⟨rfl,hb⟩
        refine ⟨_,rfl,?_⟩;have _:=bb (bk Z8) hb;have _:=bb (bk Z12) hb;have _:=bs hb;clear Z8 Z12 HB
        rename_i Z8 Z12 HB
        (try clear hb)
        refine hK.out _ _ ⟨(blk_cell Z8.out 0).trans rfl,(blk_cell Z8.out 1).trans rfl,(blk_cell Z12.out 0).trans rfl,(blk_cell Z12.out 1).trans rfl,(hc HB Z57),(hc HB Z56),(hc HB Z55),(hc HB Z54),(hc HB Z53),(hc HB Z52),(hc HB Z73),(hc HB Z72),(hc HB Z71),(hc HB Z70),(hc HB Z69),(hc HB Z68)⟩ (fun hHeld=>?_);clear hK K;refine nm 34 ?_;refine done_ (done_of HT_.out (by kernel_rfl)) ?_
        try go_wp2
        go_roundg Z28
        case measure=>have:=Z17.out;have:=Z27.out;omega
        case rel=>exact ⟨_,rs,H',⟨by have:=Z17.out;have:=Z27.out;omega⟩,⟨bk Z8⟩,⟨bk Z12⟩,⟨bq⟩⟩
      ·have H':=ra H;clear H;have Z30:=Z15.out;have Z31:=Z14.out;obtain ⟨Z32,Z33,Z34,Z35⟩:=zc2 Z12;go_wp2
       go_roundg Z28
       case measure=>have:=Z17.out;have:=Z27.out;omega
       case rel=>exact ⟨_,rs,H',⟨by have:=Z17.out;have:=Z27.out;omega⟩,⟨bk Z8⟩,⟨bk Z12⟩,⟨bq⟩⟩
   ·obtain rfl:=Option.some.inj H;have Z20:=Z14.out;have Z21:=Z15.out;obtain ⟨Z22,Z23,Z24,Z25⟩:=zc2 Z8;go_wp2;go_ret
    exact ⟨re,bq⟩
def laws_wEver.T4:Bool × List (List Nat × List Nat):=(true,[([],[]),([],[]),([],[]),([2],[2]),([],[]),([3,4],[3,4]),([5],[5]),([6],[6]),([0,1,7],[0,1,7])])
def laws_wEver.B4:List Nat:=[0,0,0,4,0,28,60,124,255]
theorem laws_wEver.tab4:rtab .any (opsOf Tryz.f19 4)=laws_wEver.T4:=by kernel_rfl
theorem laws_wEver.bits4:waitsOk laws_wEver.T4.2 laws_wEver.B4=true:=by kernel_rfl
def laws_wEver.T9:Bool × List (List Nat × List Nat):=(true,[([],[]),([],[]),([],[]),([2],[2]),([],[]),([3,4],[3,4]),([5],[5]),([6],[6]),([0,1,7],[0,1,7])])
def laws_wEver.B9:List Nat:=[0,0,0,4,0,28,60,124,255]
theorem laws_wEver.tab9:rtab .any (opsOf Tryz.f19 9)=laws_wEver.T9:=by kernel_rfl
theorem laws_wEver.bits9:waitsOk laws_wEver.T9.2 laws_wEver.B9=true:=by kernel_rfl
theorem laws_wEver.calls (k:Nat) (a0_0:ByteArray) (A0_1:Option Addr) (c0_1:Nat) (l0_1:List (S75)) (a1_0:ByteArray) (A1_1:Option Addr) (c1_1:Nat) (l1_1:List (S75)) (r:Bool) (w:World) (hr0_1:Kd.C k75 w A0_1 l0_1.length l0_1) (hc0_1:l0_1.length≤c0_1) (hr1_1:Kd.C k75 w A1_1 l1_1.length l1_1) (hc1_1:l1_1.length≤c1_1) (h:laws_wEver.f k a0_0 l0_1 a1_0 l1_1=some r) :
  Calls Tryz.prog 19 #[.agg #[.string a0_0, .slice A0_1 l0_1.length c0_1], .agg #[.string a1_0, .slice A1_1 l1_1.length c1_1]] w fun e w'=>e = .returned (.bool r)∧Below w.heap.size w w':=by
 have Z0:=Tryz.underlying32;have Z1:=ra hr0_1;have Z2:=ra hc0_1;clear hr0_1 hc0_1;have Z3:=ra hr1_1;have Z4:=ra hc1_1;clear hr1_1 hc1_1;have HB:=ra (Below.refl w.heap.size w);have H:=h;unfold laws_wEver.f at H;clear h;have H':=ra H;clear H
 go_enter Tryz.func19,Tryz.ntmps19
 go_wp2_with (first | ((with_reducible refine gd 2 rfl ?_);refine bd 2 #[.string a0_0, .slice A0_1 l0_1.length c0_1] 32 ?_;intro Z5 Z6 HB Z7 Z8) | ((with_reducible refine gd 3 rfl ?_);refine bf 3 #[.string a1_0, .slice A1_1 l1_1.length c1_1] 32 ?_;intro Z9 Z10 hg hb HB Z11 Z12;have Z13:=bn hg (bk Z7);have Z14:=bm hg (bk Z7);replace Z7:=bb (bk Z7) hb;clear hg hb))
 go_loopg [5] k (fun kq v5 w'=>∃ (x5_1:Int),v5 = .int .i64 x5_1∧Aside0 (laws_wEver.l0 kq x5_1 a0_0 l0_1 a1_0 l1_1=some r)∧Aside0 (kq≤k)∧Aside0 (w'.heap[Z5]? = some (.cells #[.string a0_0,(.slice A0_1 l0_1.length c0_1)] 32 (0,0)))∧Aside0 (w'.heap[Z9]? = some (.cells #[.string a1_0,(.slice A1_1 l1_1.length c1_1)] 32 (0,0)))∧Aside0 (Below w.heap.size w w'))
 case atStart=>exact ⟨(0),rs,H',⟨Nat.le_refl _⟩,⟨bk Z7⟩,⟨bk Z11⟩,⟨bq⟩⟩
 case round =>
  clear H';obtain ⟨Z15,rfl,HA,Z16,Z7,Z11,HB⟩:=hrel
  cases gk with
  | zero=>exact absurd HA.out (by simp [laws_wEver.l0])
  | succ Z17 =>
   have H:=HA.out;clear HA;simp only [laws_wEver.l0] at H
   rcases td H with ⟨Z18,H⟩ | ⟨Z18,H⟩
   ·obtain ⟨Z19,H⟩:=tn H;obtain ⟨Z20,Z21,H⟩:=bo H
    rcases ud H with ⟨rfl,Z22⟩ | ⟨rfl,Z22⟩<;>have H:=Z22
    ·obtain rfl:=Option.some.inj H;have Z23:=Z13.out;have Z24:=Z14.out;obtain ⟨Z25,Z26,Z27,Z28⟩:=zc2 Z7
     try go_wp2
     have _:=ra (blk_drew Z7.out);have _:=ra (blk_drew Z11.out);have _:=ra (below_drew1 HB.out);clear Z7 Z11 HB
     rename_i Z7 Z11 HB
     have Z29:0≤(Z15:Int):=od;have Z30:Z15<(l0_1.length:Int):=od;obtain ⟨Z31,Z32,Z33,Z34,Z35,Z36,Z37,Z38⟩:=at_T75 Z1.out Z15 Z29 Z30;have Z39:=Z38;have Z40:=Z37;have Z41:=Z36;have Z42:=Z35;have Z43:=Z34;have Z44:=Z33;cases Z32
     replace Z33:=hc HB Z33;replace Z34:=hc HB Z34;replace Z35:=hc HB Z35;replace Z36:=hc HB Z36;replace Z37:=hc HB Z37;replace Z38:=hc HB Z38;replace Z29:=eq_true Z29;replace Z30:=eq_true Z30
     refine start_ (n:=9) (S:=fun w'=>w'.cell? ⟨Z5,0,none⟩=some (.string a0_0)∧w'.cell? ⟨Z5,1,none⟩=some (.slice (some Z31) l0_1.length c0_1)∧w'.cell? ⟨Z9,0,none⟩=some (.string a1_0)∧w'.cell? ⟨Z9,1,none⟩=some (.slice A1_1 l1_1.length c1_1)∧w'.cell? (Z31.add ((Z15).toNat * 6))=some (.int .i64 ((rd_T75 l0_1 Z15).f0))∧w'.cell? ⟨(Z31.add ((Z15).toNat * 6)).block,(Z31.add ((Z15).toNat * 6)).off+1,none⟩=some (.int .i64 ((rd_T75 l0_1 Z15).f1))∧w'.cell? ⟨(Z31.add ((Z15).toNat * 6)).block,(Z31.add ((Z15).toNat * 6)).off+2,none⟩=some (.int .i64 ((rd_T75 l0_1 Z15).f2))∧w'.cell? ⟨(Z31.add ((Z15).toNat * 6)).block,(Z31.add ((Z15).toNat * 6)).off+3,none⟩=some (.int .i64 ((rd_T75 l0_1 Z15).f3))∧w'.cell? ⟨(Z31.add ((Z15).toNat * 6)).block,(Z31.add ((Z15).toNat * 6)).off+4,none⟩=some (.int .i64 ((rd_T75 l0_1 Z15).f4))∧w'.cell? ⟨(Z31.add ((Z15).toNat * 6)).block,(Z31.add ((Z15).toNat * 6)).off+5,none⟩=some (.int .i64 ((rd_T75 l0_1 Z15).f5))) (ds:=[]) (bl 9 0) (by kernel_rfl) rfl rfl ⟨(blk_cell Z7.out 0).trans rfl,(blk_cell Z7.out 1).trans rfl,(blk_cell Z11.out 0).trans rfl,(blk_cell Z11.out 1).trans rfl,(hc HB Z44),(hc HB Z43),(hc HB Z42),(hc HB Z41),(hc HB Z40),(hc HB Z39)⟩ (fun hHeld=>?_);refine with_tabW laws_wEver.tab4 laws_wEver.bits4 (fun HT_ HW_=>?_)
     generalize wr.drew=Z45 at Z7 Z11 HB Z33 Z34 Z35 Z36 Z37 Z38 hHeld ⊢
     refine pu 2 16 (bl 9 4) ?_;refine pu 4 18 (bl 9 20) ?_;refine tk 0 14 (bl 9 21) ?_ hHeld;refine tk 1 15 (bl 9 23) ?_ hHeld;refine tk 3 17 (bl 9 31) ?_ hHeld;refine pu 5 19 (bl 9 63) ?_;refine pu 6 20 (bl 9 127) ?_;refine tk 7 21 (bl 9 255) ?_ hHeld;refine oe 8 22 (bl 9 511) (fun K hK=>?_);refine gs Tryz.func56 #[.agg #[.string a0_0, .slice (some Z31) l0_1.length c0_1], .agg #[.string a1_0, .slice A1_1 l1_1.length c1_1], .int .i64 ((rd_T75 l0_1 Z15).f4)] ?_
     with_reducible refine (laws_wNearAt.calls Z17 a0_0 _ _ l0_1 a1_0 _ _ l1_1 ((rd_T75 l0_1 Z15).f4) true _ ?side1 ?side2 ?side3 ?side4 Z21.out).mono ?_
     (case side1=>exact sc Z1)
     (case side2=>exact Z2.out)
     (case side3=>exact sc Z3)
     (case side4=>exact Z4.out)
     rintro e Z46 ⟨rfl,hb⟩
     refine ⟨_,rfl,?_⟩;have _:=bb (bk Z7) hb;have _:=bb (bk Z11) hb;have _:=bs hb;clear Z7 Z11 HB
     rename_i Z7 Z11 HB
     (try clear hb)
     refine hK.out _ _ ⟨(blk_cell Z7.out 0).trans rfl,(blk_cell Z7.out 1).trans rfl,(blk_cell Z11.out 0).trans rfl,(blk_cell Z11.out 1).trans rfl,(hc HB Z44),(hc HB Z43),(hc HB Z42),(hc HB Z41),(hc HB Z40),(hc HB Z39)⟩ (fun hHeld=>?_);clear hK K;refine nm 22 ?_;refine done_ (done_of HT_.out (by kernel_rfl)) ?_
     try go_wp2
     go_ret
     exact ⟨re,bq⟩
    ·have H':=ra H;clear H;have Z23:=Z13.out;have Z24:=Z14.out;obtain ⟨Z25,Z26,Z27,Z28⟩:=zc2 Z7
     try go_wp2
     have _:=ra (blk_drew Z7.out);have _:=ra (blk_drew Z11.out);have _:=ra (below_drew1 HB.out);clear Z7 Z11 HB
     rename_i Z7 Z11 HB
     have Z29:0≤(Z15:Int):=od;have Z30:Z15<(l0_1.length:Int):=od;obtain ⟨Z31,Z32,Z33,Z34,Z35,Z36,Z37,Z38⟩:=at_T75 Z1.out Z15 Z29 Z30;have Z39:=Z38;have Z40:=Z37;have Z41:=Z36;have Z42:=Z35;have Z43:=Z34;have Z44:=Z33;cases Z32
     replace Z33:=hc HB Z33;replace Z34:=hc HB Z34;replace Z35:=hc HB Z35;replace Z36:=hc HB Z36;replace Z37:=hc HB Z37;replace Z38:=hc HB Z38;replace Z29:=eq_true Z29;replace Z30:=eq_true Z30
     refine start_ (n:=9) (S:=fun w'=>w'.cell? ⟨Z5,0,none⟩=some (.string a0_0)∧w'.cell? ⟨Z5,1,none⟩=some (.slice (some Z31) l0_1.length c0_1)∧w'.cell? ⟨Z9,0,none⟩=some (.string a1_0)∧w'.cell? ⟨Z9,1,none⟩=some (.slice A1_1 l1_1.length c1_1)∧w'.cell? (Z31.add ((Z15).toNat * 6))=some (.int .i64 ((rd_T75 l0_1 Z15).f0))∧w'.cell? ⟨(Z31.add ((Z15).toNat * 6)).block,(Z31.add ((Z15).toNat * 6)).off+1,none⟩=some (.int .i64 ((rd_T75 l0_1 Z15).f1))∧w'.cell? ⟨(Z31.add ((Z15).toNat * 6)).block,(Z31.add ((Z15).toNat * 6)).off+2,none⟩=some (.int .i64 ((rd_T75 l0_1 Z15).f2))∧w'.cell? ⟨(Z31.add ((Z15).toNat * 6)).block,(Z31.add ((Z15).toNat * 6)).off+3,none⟩=some (.int .i64 ((rd_T75 l0_1 Z15).f3))∧w'.cell? ⟨(Z31.add ((Z15).toNat * 6)).block,(Z31.add ((Z15).toNat * 6)).off+4,none⟩=some (.int .i64 ((rd_T75 l0_1 Z15).f4))∧w'.cell? ⟨(Z31.add ((Z15).toNat * 6)).block,(Z31.add ((Z15).toNat * 6)).off+5,none⟩=some (.int .i64 ((rd_T75 l0_1 Z15).f5))) (ds:=[]) (bl 9 0) (by kernel_rfl) rfl rfl ⟨(blk_cell Z7.out 0).trans rfl,(blk_cell Z7.out 1).trans rfl,(blk_cell Z11.out 0).trans rfl,(blk_cell Z11.out 1).trans rfl,(hc HB Z44),(hc HB Z43),(hc HB Z42),(hc HB Z41),(hc HB Z40),(hc HB Z39)⟩ (fun hHeld=>?_);refine with_tabW laws_wEver.tab4 laws_wEver.bits4 (fun HT_ HW_=>?_)
     generalize wr.drew=Z45 at Z7 Z11 HB Z33 Z34 Z35 Z36 Z37 Z38 hHeld ⊢
     refine pu 2 16 (bl 9 4) ?_;refine pu 4 18 (bl 9 20) ?_;refine tk 0 14 (bl 9 21) ?_ hHeld;refine tk 1 15 (bl 9 23) ?_ hHeld;refine tk 3 17 (bl 9 31) ?_ hHeld;refine pu 5 19 (bl 9 63) ?_;refine pu 6 20 (bl 9 127) ?_;refine tk 7 21 (bl 9 255) ?_ hHeld;refine oe 8 22 (bl 9 511) (fun K hK=>?_);refine gs Tryz.func56 #[.agg #[.string a0_0, .slice (some Z31) l0_1.length c0_1], .agg #[.string a1_0, .slice A1_1 l1_1.length c1_1], .int .i64 ((rd_T75 l0_1 Z15).f4)] ?_
     with_reducible refine (laws_wNearAt.calls Z17 a0_0 _ _ l0_1 a1_0 _ _ l1_1 ((rd_T75 l0_1 Z15).f4) false _ ?side1 ?side2 ?side3 ?side4 Z21.out).mono ?_
     (case side1=>exact sc Z1)
     (case side2=>exact Z2.out)
     (case side3=>exact sc Z3)
     (case side4=>exact Z4.out)
     rintro e Z46 ⟨rfl,hb⟩
     refine ⟨_,rfl,?_⟩;have _:=bb (bk Z7) hb;have _:=bb (bk Z11) hb;have _:=bs hb;clear Z7 Z11 HB
     rename_i Z7 Z11 HB
     (try clear hb)
     refine hK.out _ _ ⟨(blk_cell Z7.out 0).trans rfl,(blk_cell Z7.out 1).trans rfl,(blk_cell Z11.out 0).trans rfl,(blk_cell Z11.out 1).trans rfl,(hc HB Z44),(hc HB Z43),(hc HB Z42),(hc HB Z41),(hc HB Z40),(hc HB Z39)⟩ (fun hHeld=>?_);clear hK K;refine nm 22 ?_;refine done_ (done_of HT_.out (by kernel_rfl)) ?_
     try go_wp2
     go_roundg Z17
     case measure=>have:=Z16.out;omega
     case rel=>exact ⟨_,rs,H',⟨by have:=Z16.out;omega⟩,⟨bk Z7⟩,⟨bk Z11⟩,⟨bq⟩⟩
   ·have H':=ra H;clear H;have Z19:=Z13.out;have Z20:=Z14.out;obtain ⟨Z21,Z22,Z23,Z24⟩:=zc2 Z7;go_wp2
    go_loopg [6] Z17 (fun kq v6 w'=>∃ (x6_2:Int),v6 = .int .i64 x6_2∧Aside0 (laws_wEver.l1 kq x6_2 a0_0 l0_1 a1_0 l1_1=some r)∧Aside0 (kq≤Z17)∧Aside0 (w'.heap[Z5]? = some (.cells #[.string a0_0,(.slice A0_1 l0_1.length c0_1)] 32 (0,0)))∧Aside0 (w'.heap[Z9]? = some (.cells #[.string a1_0,(.slice A1_1 l1_1.length c1_1)] 32 (0,0)))∧Aside0 (Below w.heap.size w w'))
    case atStart=>exact ⟨_,rs,H',⟨Nat.le_refl _⟩,⟨bk Z7⟩,⟨bk Z11⟩,⟨bq⟩⟩
    case round =>
     clear H'
     try clear Z18
     try clear Z21
     try clear Z22
     try clear Z23
     try clear Z24
     obtain ⟨Z25,rfl,HA,Z26,Z7,Z11,HB⟩:=hrel
     cases gk with
     | zero=>exact absurd HA.out (by simp [laws_wEver.l1])
     | succ Z27 =>
      have H:=HA.out;clear HA;simp only [laws_wEver.l1] at H
      rcases td H with ⟨Z28,H⟩ | ⟨Z28,H⟩
      ·obtain ⟨Z29,H⟩:=tn H;obtain ⟨Z30,Z31,H⟩:=bo H
       rcases ud H with ⟨rfl,Z32⟩ | ⟨rfl,Z32⟩<;>have H:=Z32
       ·obtain rfl:=Option.some.inj H;have Z33:=Z14.out;have Z34:=Z13.out;obtain ⟨Z35,Z36,Z37,Z38⟩:=zc2 Z11
        try go_wp2
        have _:=ra (blk_drew Z7.out);have _:=ra (blk_drew Z11.out);have _:=ra (below_drew1 HB.out);clear Z7 Z11 HB
        rename_i Z7 Z11 HB
        have Z39:0≤(Z25:Int):=od;have Z40:Z25<(l1_1.length:Int):=od;obtain ⟨Z41,Z42,Z43,Z44,Z45,Z46,Z47,Z48⟩:=at_T75 Z3.out Z25 Z39 Z40;have Z49:=Z48;have Z50:=Z47;have Z51:=Z46;have Z52:=Z45;have Z53:=Z44;have Z54:=Z43;cases Z42
        replace Z43:=hc HB Z43;replace Z44:=hc HB Z44;replace Z45:=hc HB Z45;replace Z46:=hc HB Z46;replace Z47:=hc HB Z47;replace Z48:=hc HB Z48;replace Z39:=eq_true Z39;replace Z40:=eq_true Z40
        refine start_ (n:=9) (S:=fun w'=>w'.cell? ⟨Z5,0,none⟩=some (.string a0_0)∧w'.cell? ⟨Z5,1,none⟩=some (.slice A0_1 l0_1.length c0_1)∧w'.cell? ⟨Z9,0,none⟩=some (.string a1_0)∧w'.cell? ⟨Z9,1,none⟩=some (.slice (some Z41) l1_1.length c1_1)∧w'.cell? (Z41.add ((Z25).toNat * 6))=some (.int .i64 ((rd_T75 l1_1 Z25).f0))∧w'.cell? ⟨(Z41.add ((Z25).toNat * 6)).block,(Z41.add ((Z25).toNat * 6)).off+1,none⟩=some (.int .i64 ((rd_T75 l1_1 Z25).f1))∧w'.cell? ⟨(Z41.add ((Z25).toNat * 6)).block,(Z41.add ((Z25).toNat * 6)).off+2,none⟩=some (.int .i64 ((rd_T75 l1_1 Z25).f2))∧w'.cell? ⟨(Z41.add ((Z25).toNat * 6)).block,(Z41.add ((Z25).toNat * 6)).off+3,none⟩=some (.int .i64 ((rd_T75 l1_1 Z25).f3))∧w'.cell? ⟨(Z41.add ((Z25).toNat * 6)).block,(Z41.add ((Z25).toNat * 6)).off+4,none⟩=some (.int .i64 ((rd_T75 l1_1 Z25).f4))∧w'.cell? ⟨(Z41.add ((Z25).toNat * 6)).block,(Z41.add ((Z25).toNat * 6)).off+5,none⟩=some (.int .i64 ((rd_T75 l1_1 Z25).f5))) (ds:=[]) (bl 9 0) (by kernel_rfl) rfl rfl ⟨(blk_cell Z7.out 0).trans rfl,(blk_cell Z7.out 1).trans rfl,(blk_cell Z11.out 0).trans rfl,(blk_cell Z11.out 1).trans rfl,(hc HB Z54),(hc HB Z53),(hc HB Z52),(hc HB Z51),(hc HB Z50),(hc HB Z49)⟩ (fun hHeld=>?_);refine with_tabW laws_wEver.tab9 laws_wEver.bits9 (fun HT_ HW_=>?_)
        generalize wr.drew=Z55 at Z7 Z11 HB Z43 Z44 Z45 Z46 Z47 Z48 hHeld ⊢
        refine pu 2 32 (bl 9 4) ?_;refine pu 4 34 (bl 9 20) ?_;refine tk 0 30 (bl 9 21) ?_ hHeld;refine tk 1 31 (bl 9 23) ?_ hHeld;refine tk 3 33 (bl 9 31) ?_ hHeld;refine pu 5 35 (bl 9 63) ?_;refine pu 6 36 (bl 9 127) ?_;refine tk 7 37 (bl 9 255) ?_ hHeld;refine oe 8 38 (bl 9 511) (fun K hK=>?_);refine gs Tryz.func56 #[.agg #[.string a0_0, .slice A0_1 l0_1.length c0_1], .agg #[.string a1_0, .slice (some Z41) l1_1.length c1_1], .int .i64 ((rd_T75 l1_1 Z25).f4)] ?_
        with_reducible refine (laws_wNearAt.calls Z27 a0_0 _ _ l0_1 a1_0 _ _ l1_1 ((rd_T75 l1_1 Z25).f4) true _ ?side1 ?side2 ?side3 ?side4 Z31.out).mono ?_
        (case side1=>exact sc Z1)
        (case side2=>exact Z2.out)
        (case side3=>exact sc Z3)
        (case side4=>exact Z4.out)
        rintro e Z56 ⟨rfl,hb⟩
        refine ⟨_,rfl,?_⟩;have _:=bb (bk Z7) hb;have _:=bb (bk Z11) hb;have _:=bs hb;clear Z7 Z11 HB
        rename_i Z7 Z11 HB
        (try clear hb)
        refine hK.out _ _ ⟨(blk_cell Z7.out 0).trans rfl,(blk_cell Z7.out 1).trans rfl,(blk_cell Z11.out 0).trans rfl,(blk_cell Z11.out 1).trans rfl,(hc HB Z54),(hc HB Z53),(hc HB Z52),(hc HB Z51),(hc HB Z50),(hc HB Z49)⟩ (fun hHeld=>?_);clear hK K;refine nm 38 ?_;refine done_ (done_of HT_.out (by kernel_rfl)) ?_
        try go_wp2
        go_ret
        exact ⟨re,bq⟩
       ·have H':=ra H;clear H;have Z33:=Z14.out;have Z34:=Z13.out;obtain ⟨Z35,Z36,Z37,Z38⟩:=zc2 Z11
        try go_wp2
        have _:=ra (blk_drew Z7.out);have _:=ra (blk_drew Z11.out);have _:=ra (below_drew1 HB.out);clear Z7 Z11 HB
        rename_i Z7 Z11 HB
        have Z39:0≤(Z25:Int):=od;have Z40:Z25<(l1_1.length:Int):=od;obtain ⟨Z41,Z42,Z43,Z44,Z45,Z46,Z47,Z48⟩:=at_T75 Z3.out Z25 Z39 Z40;have Z49:=Z48;have Z50:=Z47;have Z51:=Z46;have Z52:=Z45;have Z53:=Z44;have Z54:=Z43;cases Z42
        replace Z43:=hc HB Z43;replace Z44:=hc HB Z44;replace Z45:=hc HB Z45;replace Z46:=hc HB Z46;replace Z47:=hc HB Z47;replace Z48:=hc HB Z48;replace Z39:=eq_true Z39;replace Z40:=eq_true Z40
        refine start_ (n:=9) (S:=fun w'=>w'.cell? ⟨Z5,0,none⟩=some (.string a0_0)∧w'.cell? ⟨Z5,1,none⟩=some (.slice A0_1 l0_1.length c0_1)∧w'.cell? ⟨Z9,0,none⟩=some (.string a1_0)∧w'.cell? ⟨Z9,1,none⟩=some (.slice (some Z41) l1_1.length c1_1)∧w'.cell? (Z41.add ((Z25).toNat * 6))=some (.int .i64 ((rd_T75 l1_1 Z25).f0))∧w'.cell? ⟨(Z41.add ((Z25).toNat * 6)).block,(Z41.add ((Z25).toNat * 6)).off+1,none⟩=some (.int .i64 ((rd_T75 l1_1 Z25).f1))∧w'.cell? ⟨(Z41.add ((Z25).toNat * 6)).block,(Z41.add ((Z25).toNat * 6)).off+2,none⟩=some (.int .i64 ((rd_T75 l1_1 Z25).f2))∧w'.cell? ⟨(Z41.add ((Z25).toNat * 6)).block,(Z41.add ((Z25).toNat * 6)).off+3,none⟩=some (.int .i64 ((rd_T75 l1_1 Z25).f3))∧w'.cell? ⟨(Z41.add ((Z25).toNat * 6)).block,(Z41.add ((Z25).toNat * 6)).off+4,none⟩=some (.int .i64 ((rd_T75 l1_1 Z25).f4))∧w'.cell? ⟨(Z41.add ((Z25).toNat * 6)).block,(Z41.add ((Z25).toNat * 6)).off+5,none⟩=some (.int .i64 ((rd_T75 l1_1 Z25).f5))) (ds:=[]) (bl 9 0) (by kernel_rfl) rfl rfl ⟨(blk_cell Z7.out 0).trans rfl,(blk_cell Z7.out 1).trans rfl,(blk_cell Z11.out 0).trans rfl,(blk_cell Z11.out 1).trans rfl,(hc HB Z54),(hc HB Z53),(hc HB Z52),(hc HB Z51),(hc HB Z50),(hc HB Z49)⟩ (fun hHeld=>?_);refine with_tabW laws_wEver.tab9 laws_wEver.bits9 (fun HT_ HW_=>?_)
        generalize wr.drew=Z55 at Z7 Z11 HB Z43 Z44 Z45 Z46 Z47 Z48 hHeld ⊢
        refine pu 2 32 (bl 9 4) ?_;refine pu 4 34 (bl 9 20) ?_;refine tk 0 30 (bl 9 21) ?_ hHeld;refine tk 1 31 (bl 9 23) ?_ hHeld;refine tk 3 33 (bl 9 31) ?_ hHeld;refine pu 5 35 (bl 9 63) ?_;refine pu 6 36 (bl 9 127) ?_;refine tk 7 37 (bl 9 255) ?_ hHeld;refine oe 8 38 (bl 9 511) (fun K hK=>?_);refine gs Tryz.func56 #[.agg #[.string a0_0, .slice A0_1 l0_1.length c0_1], .agg #[.string a1_0, .slice (some Z41) l1_1.length c1_1], .int .i64 ((rd_T75 l1_1 Z25).f4)] ?_
        with_reducible refine (laws_wNearAt.calls Z27 a0_0 _ _ l0_1 a1_0 _ _ l1_1 ((rd_T75 l1_1 Z25).f4) false _ ?side1 ?side2 ?side3 ?side4 Z31.out).mono ?_
        (case side1=>exact sc Z1)
        (case side2=>exact Z2.out)
        (case side3=>exact sc Z3)
        (case side4=>exact Z4.out)
        rintro e Z56 ⟨rfl,hb⟩
        refine ⟨_,rfl,?_⟩;have _:=bb (bk Z7) hb;have _:=bb (bk Z11) hb;have _:=bs hb;clear Z7 Z11 HB
        rename_i Z7 Z11 HB
        (try clear hb)
        refine hK.out _ _ ⟨(blk_cell Z7.out 0).trans rfl,(blk_cell Z7.out 1).trans rfl,(blk_cell Z11.out 0).trans rfl,(blk_cell Z11.out 1).trans rfl,(hc HB Z54),(hc HB Z53),(hc HB Z52),(hc HB Z51),(hc HB Z50),(hc HB Z49)⟩ (fun hHeld=>?_);clear hK K;refine nm 38 ?_;refine done_ (done_of HT_.out (by kernel_rfl)) ?_
        try go_wp2
        go_roundg Z27
        case measure=>have:=Z16.out;have:=Z26.out;omega
        case rel=>exact ⟨_,rs,H',⟨by have:=Z16.out;have:=Z26.out;omega⟩,⟨bk Z7⟩,⟨bk Z11⟩,⟨bq⟩⟩
      ·obtain rfl:=Option.some.inj H;have Z29:=Z14.out;have Z30:=Z13.out;obtain ⟨Z31,Z32,Z33,Z34⟩:=zc2 Z11;go_wp2;go_ret
       exact ⟨re,bq⟩
end Go.Proofs.YtgklmafdbgnohaaGreat.PA
