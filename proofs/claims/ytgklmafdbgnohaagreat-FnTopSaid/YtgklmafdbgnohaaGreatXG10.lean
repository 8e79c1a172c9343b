/- Contracts of the program's and the reference's functions (they began as prints of the kit's tool; shortened and joined). No condition beside what the Lean functions say. -/
import Derived.Test.YtgklmafdbgnohaaGreatXPAd4
import Derived.Test.YtgklmafdbgnohaaGreatXZCx5
import Derived.Test.YtgklmafdbgnohaaGreatXZCv8
import Derived.Test.YtgklmafdbgnohaaGreatXZCz9
set_option linter.unusedVariables false
set_option linter.unusedSimpArgs false
namespace Go.Proofs.YtgklmafdbgnohaaGreat.PA
open Go.RowKit Go.Proofs.YtgklmafdbgnohaaGreatW.PrintWords Go.Proofs.YtgklmafdbgnohaaGreatW.PrintLast Go.Proofs.YtgklmafdbgnohaaGreatW.PrintMore Go.Proofs.YtgklmafdbgnohaaGreat.Z
attribute [local go_sem] max2_int min2_int max_two min_two max_three min_three max_four min_four
set_option maxHeartbeats 8000000
set_option maxRecDepth 100000
theorem spec_l1Open.calls (A0:Option Addr) (c0:Nat) (l0 r1:List Int) (r2:Int) (w0 w:World) (hB:Below w0.heap.size w0 w) (hr0:Kd.C (Kd.int .u8) w0 A0 l0.length l0) (hc0:l0.length≤c0) (h:spec_l1Open.f l0=some (r1,r2)) :
  Calls Tryz.prog 34 #[.slice A0 l0.length c0] w fun e w'=>∃ g_:Nat,e = .returned (.pointer (some ⟨g_,0,none⟩))∧IsS113 w0 w' g_ r1 r2∧Below w0.heap.size w0 w'∧Below w.heap.size w w':=by
 have Z0:=Tryz.underlying113;have Z1:=ra hr0;have Z2:=ra hc0;clear hr0 hc0;have HBW:=ra (Below.refl w.heap.size w);have Z3:=Aside0.mk hB.size;have HB:=ra hB;clear hB;have H:=h;unfold spec_l1Open.f at H;clear h
 rcases sd H with ⟨Z4,Z5,H⟩ | ⟨Z4,Z5,H⟩
 ·have Z6:decide (2000<l0.length)=true:=decide_eq_true (by omega);clear Z4;by_cases Z7:2000≤(l0.length:Int)
  ·rw [if_pos Z7] at H;have Z8:=eq_true Z7;have Z9:decide (2000≤(l0.length:Int))=true:=decide_eq_true Z7;clear Z7;simp only [Option.some.injEq,Prod.mk.injEq] at H;obtain ⟨rfl,rfl⟩:=H;obtain ⟨Z10,Z11,_,Z12,_⟩:=info_parts info5;obtain ⟨Z13,Z14,Z15⟩:=print_take_of (P:=Tryz.prog) (Value.int .u8) 0 22 5 .i64 Tryz.underlying22 Z11 Z12 A0 c0 l0 2000 (by omega) (od) Z2.out;have Z16:=ra (Kd.C_of_reads (h1:=fun _=>rfl) (Z14 _ (Kd.reads_of_C Z1.out)));have Z17:=ra Z15;clear Z14 Z15 Z11 Z12
   go_enter Tryz.func34,Tryz.ntmps34
   go_wp2_with (first | ((with_reducible refine gd 10 rfl ?_);refine be 10 #[.slice A0 (l0.take 2000).length c0, .int .i64 0] 113 ?_;intro Z18 hg Z19 hbox hb;have Z20:=ra (hbox);have Z21:=ra ((by rw [hg];exact (below_size (by repeat (first | (with_reducible first | exact HBW.out | apply below_alloc | apply pw_below_drewN | apply below_drew1) | exact HBW.out))):w.heap.size≤Z18));have Z22:=ra ((Nat.le_trans Z3.out (by rw [hg];exact (below_size (by repeat (first | (with_reducible first | exact HBW.out | apply below_alloc | apply pw_below_drewN | apply below_drew1) | exact HBW.out))):w.heap.size≤Z18):w0.heap.size≤Z18));replace HBW:=ra (below_step HBW.out hb);replace HB:=bs hb;clear hb hbox hg))
   go_ret
   exact ⟨_,rfl,(show IsS113 w0 _ Z18 (l0.take 2000) 0 from ⟨_,_,bk Z20,Z22.out,Z16.out⟩),bq,by repeat (first | (with_reducible first | exact HBW.out | apply below_alloc | apply pw_below_drewN | apply below_drew1 | refine below_set ?_ Z21.out) | exact HBW.out)⟩
  ·rw [if_neg Z7] at H;exact absurd H (by simp)
 ·have Z6:decide (2000<l0.length)=false:=decide_eq_false (by omega);clear Z4;simp only [Option.some.injEq,Prod.mk.injEq] at H;obtain ⟨rfl,rfl⟩:=H
  go_enter Tryz.func34,Tryz.ntmps34
  go_wp2_with (first | ((with_reducible refine gd 10 rfl ?_);refine be 10 #[.slice A0 l0.length c0, .int .i64 0] 113 ?_;intro Z7 hg Z8 hbox hb;have Z9:=ra (hbox);have Z10:=ra ((by rw [hg];exact (below_size (by repeat (first | (with_reducible first | exact HBW.out | apply below_alloc | apply pw_below_drewN | apply below_drew1) | exact HBW.out))):w.heap.size≤Z7));have Z11:=ra ((Nat.le_trans Z3.out (by rw [hg];exact (below_size (by repeat (first | (with_reducible first | exact HBW.out | apply below_alloc | apply pw_below_drewN | apply below_drew1) | exact HBW.out))):w.heap.size≤Z7):w0.heap.size≤Z7));replace HBW:=ra (below_step HBW.out hb);replace HB:=bs hb;clear hb hbox hg))
  go_ret
  exact ⟨_,rfl,(show IsS113 w0 _ Z7 l0 0 from ⟨_,_,bk Z9,Z11.out,Z1.out⟩),bq,by repeat (first | (with_reducible first | exact HBW.out | apply below_alloc | apply pw_below_drewN | apply below_drew1 | refine below_set ?_ Z10.out) | exact HBW.out)⟩
theorem spec_l1Rd_pick.calls (k g:Nat) (s0_0:List Int) (s0_1 a1 r1 r2:Int) (w0 w:World) (hI:IsS113 w0 w g s0_0 s0_1) (hB:Below w0.heap.size w0 w) (h:spec_l1Rd_pick.f k s0_0 s0_1 a1=some (r1,r2)) :
  Calls Tryz.prog 35 #[.pointer (some ⟨g,0,none⟩), .int .i64 a1] w fun e w'=>e = .returned (.int .i64 r1)∧IsS113 w0 w' g s0_0 r2∧Below w0.heap.size w0 w'∧KeepBut w w' g none:=by
 have Z0:=ra hI;have HK:=ra (KeepBut.refl w g none);have HL:=Aside0.mk hB.size;clear hI;have Z1:=Aside0.mk hB.size;have HB:=ra hB;clear hB;have H:=h;unfold spec_l1Rd_pick.f at H;clear h;have Z2:=ra H;clear H;obtain ⟨Z3,Z4,Z5,Z6,Z7⟩:=Z0.out;have Z8:=cellS113_0 Z5;have Z9:=cellS113_1 Z5;have Z10:=blk_frozen Z5 1;clear Z5 Z6
 go_enter Tryz.func35,Tryz.ntmps35
 go_upto_region 2 with (fail)
 repeat (go_quiet (fail);go_upto_region 2 with (fail))
 go_cut [24] (fun v24 wc=>∃ (kq:Nat) (x24_2:Bool),v24 = .bool x24_2∧Aside0 (spec_l1Rd_pick.j0 kq a1 x24_2 s0_0 (wrap64 (s0_1+1))=some (r1,r2))∧Aside0 (kq≤k)∧Aside0 (IsS113 w0 wc g s0_0 (wrap64 (s0_1+1)))∧Aside0 (KeepBut w wc g none)∧Aside0 (Below w0.heap.size w0 wc))
 case first =>
  have H:=Z2.out;clear Z2
  rcases td H with ⟨Z11,H⟩ | ⟨Z11,H⟩
  (first | rw [Z11] | (simp only [i64_w,i32_w];rw [Z11]) | skip)
  have H':=ra H;clear H;rotate_left
  (first | rw [Z11] | (simp only [i64_w,i32_w];rw [Z11]) | skip)
  have H':=ra H;clear H;obtain ⟨Z12,Z13,Z14,Z15,Z16⟩:=Z0.out;have Z17:=cellS113_0 Z14;have Z18:=cellS113_1 Z14;have Z19:=blk_frozen Z14 1;clear Z14 Z15;rotate_left
  all_goals
   go_wp2
   repeat (go_quiet (fail);try go_wp2)
   go_meet
   case rel=>exact ⟨_,_,rs,H',⟨by first | omega | exact Nat.le_refl _⟩,⟨by exact qi Z0⟩,⟨by exact qk _ _ _ HK⟩,⟨by exact qb Z0 HB⟩⟩
 case rest =>
  clear Z2
  try clear Z8
  try clear Z9
  try clear Z10
  obtain ⟨kq,Z11,rfl,HA,Z12,Z0,HK,HB⟩:=hcut
  cases kq with
  | zero=>exact absurd HA.out (by simp [spec_l1Rd_pick.j0])
  | succ Z13 =>
   have H:=HA.out;clear HA;simp only [spec_l1Rd_pick.j0] at H
   rcases ud H with ⟨rfl,Z14⟩ | ⟨rfl,Z14⟩<;>have H:=Z14
   ·simp only [Option.some.injEq,Prod.mk.injEq] at H;obtain ⟨rfl,rfl⟩:=H;go_wp2
    repeat (go_quiet (fail);try go_wp2)
    go_ret
    exact ⟨re,by exact qi Z0,by exact qb Z0 HB,by exact qk _ _ _ HK⟩
   ·rcases td H with ⟨Z15,H⟩ | ⟨Z15,H⟩
    ·obtain ⟨Z16,Z17⟩:∃ j_:Int,(wrap64 ((wrap64 (s0_1+1)) - 1))=j_:=⟨_,rfl⟩;replace H:(if 0≤(Z16) then (if a1=0 then (none) else (some (Int.tmod (wrap64 (rd s0_0 (Z16))) a1,(wrap64 (s0_1+1))))) else (none))=some (r1,r2):=by first | (rw [Z17] at H;exact H) | (simp only [Z17] at H ⊢;exact H)
     (try rw [Z17] at Z15)
     have Z18:(IntKind.i64.wrap ((wrap64 (s0_1+1)) - 1))=Z16:=(i64_w _).trans Z17;obtain ⟨Z19,H⟩:=tn H;obtain ⟨Z20,Z21,Z22,H⟩:=eo H;simp only [Option.some.injEq,Prod.mk.injEq] at H;obtain ⟨rfl,rfl⟩:=H;obtain ⟨Z23,Z24,Z25,Z26,Z27⟩:=Z0.out;have Z28:=cellS113_0 Z25;have Z29:=cellS113_1 Z25;have Z30:=blk_frozen Z25 1;clear Z25 Z26;have Z31:0≤((Z16):Int):=od;have Z32:(Z16)<(s0_0.length:Int):=od;obtain ⟨Z33,Z34,Z35⟩:=Kd.at_int Z27 (Z16) Z31 Z32;cases Z34
     replace Z35:=pw_cell_below HB.out Z35;replace Z31:=eq_true Z31;replace Z32:=eq_true Z32;go_wp2
     repeat (go_quiet (fail);try go_wp2)
     go_ret
     exact ⟨by first | rfl | (simp [errW_none,errW_some]<;>rfl) | (simp only [← Z17];first | rfl | (simp [errW_none,errW_some]<;>rfl)) | (simp [*,errW_none,errW_some]<;>rfl),by exact qi Z0,by exact qb Z0 HB,by exact qk _ _ _ HK⟩
    ·obtain ⟨Z16,Z17,Z18,H⟩:=eo H;have Z19:¬ (s0_0=[]):=fun h_=>Z16 (by rw [h_];rfl);obtain ⟨Z20,Z21⟩:∃ j_:Int,(Int.tmod (wrap64 ((wrap64 (s0_1+1)) - 1)) (s0_0.length:Int))=j_:=⟨_,rfl⟩
     replace H:(if 0≤(Z20) then (if (Z20)<(s0_0.length:Int) then (if 0≤(Int.tmod (wrap64 ((wrap64 ((wrap64 ((wrap64 (s0_1+1)) - 1)) * 7))+3)) (s0_0.length:Int)) then (if (Int.tmod (wrap64 ((wrap64 ((wrap64 ((wrap64 (s0_1+1)) - 1)) * 7))+3)) (s0_0.length:Int))<(s0_0.length:Int) then (if a1=0 then (none) else (some (Int.tmod (Go.bits .xor .i64 (wrap64 ((wrap64 ((wrap64 ((wrap64 ((wrap64 (rd s0_0 (Z20))) * 131))+(wrap64 ((wrap64 (rd s0_0 (Int.tmod (wrap64 ((wrap64 ((wrap64 ((wrap64 (s0_1+1)) - 1)) * 7))+3)) (s0_0.length:Int)))) * 1117))))+(wrap64 ((wrap64 ((wrap64 (s0_1+1)) - 1)) * 29))))+(wrap64 ((wrap64 (Int.tdiv (wrap64 ((wrap64 (s0_1+1)) - 1)) (s0_0.length:Int))) * 53)))) (wrap64 (Int.tdiv (wrap64 ((wrap64 ((wrap64 ((wrap64 ((wrap64 (rd s0_0 (Z20))) * 131))+(wrap64 ((wrap64 (rd s0_0 (Int.tmod (wrap64 ((wrap64 ((wrap64 ((wrap64 (s0_1+1)) - 1)) * 7))+3)) (s0_0.length:Int)))) * 1117))))+(wrap64 ((wrap64 ((wrap64 (s0_1+1)) - 1)) * 29))))+(wrap64 ((wrap64 (Int.tdiv (wrap64 ((wrap64 (s0_1+1)) - 1)) (s0_0.length:Int))) * 53)))) 64))) a1,(wrap64 (s0_1+1))))) else (none)) else (none)) else (none)) else (none))=some (r1,r2):=by first | (rw [Z21] at H;exact H) | (simp only [Z21] at H ⊢;exact H)
     obtain ⟨Z22,H⟩:=tn H;obtain ⟨Z23,H⟩:=tn H;obtain ⟨Z24,Z25⟩:∃ j_:Int,(Int.tmod (wrap64 ((wrap64 ((wrap64 ((wrap64 (s0_1+1)) - 1)) * 7))+3)) (s0_0.length:Int))=j_:=⟨_,rfl⟩;replace H:(if 0≤(Z24) then (if (Z24)<(s0_0.length:Int) then (if a1=0 then (none) else (some (Int.tmod (Go.bits .xor .i64 (wrap64 ((wrap64 ((wrap64 ((wrap64 ((wrap64 (rd s0_0 (Z20))) * 131))+(wrap64 ((wrap64 (rd s0_0 (Z24))) * 1117))))+(wrap64 ((wrap64 ((wrap64 (s0_1+1)) - 1)) * 29))))+(wrap64 ((wrap64 (Int.tdiv (wrap64 ((wrap64 (s0_1+1)) - 1)) (s0_0.length:Int))) * 53)))) (wrap64 (Int.tdiv (wrap64 ((wrap64 ((wrap64 ((wrap64 ((wrap64 (rd s0_0 (Z20))) * 131))+(wrap64 ((wrap64 (rd s0_0 (Z24))) * 1117))))+(wrap64 ((wrap64 ((wrap64 (s0_1+1)) - 1)) * 29))))+(wrap64 ((wrap64 (Int.tdiv (wrap64 ((wrap64 (s0_1+1)) - 1)) (s0_0.length:Int))) * 53)))) 64))) a1,(wrap64 (s0_1+1))))) else (none)) else (none))=some (r1,r2):=by first | (rw [Z25] at H;exact H) | (simp only [Z25] at H ⊢;exact H)
     obtain ⟨Z26,H⟩:=tn H;obtain ⟨Z27,H⟩:=tn H;obtain ⟨Z28,Z29,Z30,H⟩:=eo H;simp only [Option.some.injEq,Prod.mk.injEq] at H;obtain ⟨rfl,rfl⟩:=H;obtain ⟨Z31,Z32,Z33,Z34,Z35⟩:=Z0.out;have Z36:=cellS113_0 Z33;have Z37:=cellS113_1 Z33;have Z38:=blk_frozen Z33 1;clear Z33 Z34;have Z39:0≤((Z20):Int):=od;have Z40:(Z20)<(s0_0.length:Int):=od;obtain ⟨Z41,Z42,Z43⟩:=Kd.at_int Z35 (Z20) Z39 Z40;cases Z42
     replace Z43:=pw_cell_below HB.out Z43;replace Z39:=eq_true Z39;replace Z40:=eq_true Z40;have Z44:0≤((Z24):Int):=od;have Z45:(Z24)<(s0_0.length:Int):=od;obtain ⟨Z46,Z47,Z48⟩:=Kd.at_int Z35 (Z24) Z44 Z45;obtain rfl:Z41=Z46:=(by injection Z47);replace Z48:=pw_cell_below HB.out Z48;replace Z44:=eq_true Z44;replace Z45:=eq_true Z45;go_wp2
     repeat (go_quiet (fail);try go_wp2)
     go_ret
     exact ⟨by first | rfl | (simp [errW_none,errW_some]<;>rfl) | (simp only [← Z21,← Z25];first | rfl | (simp [errW_none,errW_some]<;>rfl)) | (simp [*,errW_none,errW_some]<;>rfl),by exact qi Z0,by exact qb Z0 HB,by exact qk _ _ _ HK⟩
theorem spec_l1Rd_of.calls (k g:Nat) (s0_0:List Int) (s0_1:Int) (A1:Option Addr) (c1:Nat) (l1:List ByteArray) (r1:ByteArray) (r2:Int) (w0 w:World) (hI:IsS113 w0 w g s0_0 s0_1) (hB:Below w0.heap.size w0 w) (hr1:Kd.C Kd.string w A1 l1.length l1) (hc1:l1.length≤c1) (hf1:∀ ad,A1=some ad→0<l1.length→ad.block≠g) (h:spec_l1Rd_of.f k s0_0 s0_1 l1=some (r1,r2)) :
  Calls Tryz.prog 92 #[.pointer (some ⟨g,0,none⟩), .slice A1 l1.length c1] w fun e w'=>e = .returned (.string r1)∧IsS113 w0 w' g s0_0 r2∧Below w0.heap.size w0 w'∧KeepBut w w' g none:=by
 have Z0:=ra hr1;have Z1:=ra hc1;clear hr1 hc1;have Z2:=ra hI;have HK:=ra (KeepBut.refl w g none);have HL:=Aside0.mk hB.size;clear hI;have Z3:=Aside0.mk hB.size;have HB:=ra hB;clear hB;have H:=h;unfold spec_l1Rd_of.f at H;clear h;obtain ⟨⟨Z4,Z5⟩,Z6,H⟩:=bo H
 try dsimp only at H
 obtain ⟨Z7,H⟩:=tn H;obtain ⟨Z8,H⟩:=tn H;simp only [Option.some.injEq,Prod.mk.injEq] at H;obtain ⟨rfl,rfl⟩:=H
 go_enter Tryz.func92,Tryz.ntmps92
 go_wp2_with (first | ((with_reducible refine gc 35 rfl ?_);refine gy (some 9) Tryz.func35 (spec_l1Rd_pick.calls _ _ _ _ _ _ _ _ _ (qi Z2) (qb Z2 HB) Z6.out) ?_;rintro Z9 ⟨hi,hb,hk⟩;replace HK:=ku (qk _ _ _ HK) hk;replace HB:=ra (hb);replace Z2:=ra (hi);clear hb hk hi;have Z10:0≤(Z4:Int):=od;have Z11:Z4<(l1.length:Int):=od;obtain ⟨Z12,Z13,Z14⟩:=Kd.at_string Z0.out Z4 Z10 Z11;cases Z13;replace Z14:=keep_cell HK.out Z14 (by first | (rw [add_block];exact hf1 _ rfl (by omega)) | exact hf1 _ rfl (by omega) | exact hf1 Z12 rfl (by omega));replace Z10:=eq_true Z10;replace Z11:=eq_true Z11))
 go_ret
 exact ⟨re,by exact qi Z2,by exact qb Z2 HB,by exact qk _ _ _ HK⟩
theorem spec_l1Many.calls (k:Nat) (a0:ByteArray) (a1:Int) (r:ByteArray) (w:World) (h:spec_l1Many.f k a0 a1=some r) :
  Calls Tryz.prog 123 #[.string a0, .int .i64 a1] w fun e w'=>e = .returned (.string r)∧Drawn0 w w':=by
 have H:=h;unfold spec_l1Many.f at H;clear h;have H':=ra H;clear H
 go_enter Tryz.func123,Tryz.ntmps123
 go_wp2
 go_loopg [0,1,5] k (fun kq v0 v1 v5 w'=>∃ (x0_1:ByteArray) (x1_1:Int) (x5_1:ByteArray),v0 = .string x0_1∧v1 = .int .i64 x1_1∧v5 = .string x5_1∧Aside0 (spec_l1Many.l0 kq x0_1 x1_1 x5_1=some r)∧Aside0 (kq≤k)∧Drawn0 w w')
 case atStart=>exact ⟨(a0),(a1),((⟨#[]⟩:ByteArray)),rs,rs,rs,H',⟨Nat.le_refl _⟩,d0⟩
 case round =>
  clear H';obtain ⟨Z0,Z1,Z2,rfl,rfl,rfl,HA,Z3,⟨Z4,rfl⟩⟩:=hrel
  cases gk with
  | zero=>exact absurd HA.out (by simp [spec_l1Many.l0])
  | succ Z5 =>
   have H:=HA.out;clear HA;simp only [spec_l1Many.l0] at H
   rcases td H with ⟨Z6,H⟩ | ⟨Z6,H⟩
   ·rcases ed H with ⟨-,Z7,Z8,H⟩ | ⟨Z9,Z7,Z8,H⟩
    ·by_cases Z10:Z2.size+Z0.size≤9223372036854775807
     ·rw [if_pos Z10] at H;have Z11:=eq_true Z10;have Z12:decide (Z2.size+Z0.size≤9223372036854775807)=true:=decide_eq_true Z10
      try have Z13:(9223372036854775807<Z2.size+Z0.size)=False:=eq_false (Nat.not_lt.2 Z10)
      by_cases Z14:Z0.size+Z0.size≤9223372036854775807
      ·rw [if_pos Z14] at H;have Z15:=eq_true Z14;have Z16:decide (Z0.size+Z0.size≤9223372036854775807)=true:=decide_eq_true Z14
       try have Z17:(9223372036854775807<Z0.size+Z0.size)=False:=eq_false (Nat.not_lt.2 Z14)
       have H':=ra H;clear H;go_wp2
       go_roundg Z5
       case measure=>have:=Z3.out;omega
       case rel=>exact ⟨(Z0++Z0),(wrap64 (Int.tdiv Z1 2)),(Z2++Z0),rs,rs,rs,H',⟨by have:=Z3.out;omega⟩,d0⟩
      ·rw [if_neg Z14] at H;exact absurd H (by simp)
     ·rw [if_neg Z10] at H;exact absurd H (by simp)
    ·by_cases Z10:Z0.size+Z0.size≤9223372036854775807
     ·rw [if_pos Z10] at H;have Z11:=eq_true Z10;have Z12:decide (Z0.size+Z0.size≤9223372036854775807)=true:=decide_eq_true Z10
      try have Z13:(9223372036854775807<Z0.size+Z0.size)=False:=eq_false (Nat.not_lt.2 Z10)
      have H':=ra H;clear H;go_wp2
      go_roundg Z5
      case measure=>have:=Z3.out;omega
      case rel=>exact ⟨(Z0++Z0),(wrap64 (Int.tdiv Z1 2)),(Z2),rs,rs,rs,H',⟨by have:=Z3.out;omega⟩,d0⟩
     ·rw [if_neg Z10] at H;exact absurd H (by simp)
   ·obtain rfl:=Option.some.inj H;go_wp2;go_ret
    exact ⟨rs,d0⟩
end Go.Proofs.YtgklmafdbgnohaaGreat.PA
