/- laws.FnTop answers true where each of the drawn events comes out as it must. No condition. -/
import Derived.Test.YtgklmafdbgnohaaGreatXPAd4
import Derived.Test.YtgklmafdbgnohaaGreatXZCx5
import Derived.Test.YtgklmafdbgnohaaGreatXZCy6
import Derived.Test.YtgklmafdbgnohaaGreatXZCm7
import Derived.Test.YtgklmafdbgnohaaGreatXG13
import Derived.Test.YtgklmafdbgnohaaGreatXG15
import Derived.Test.YtgklmafdbgnohaaGreatXG18
import Derived.Test.YtgklmafdbgnohaaGreatXG20
import Derived.Test.YtgklmafdbgnohaaGreatXG21
set_option linter.unusedVariables false
set_option linter.unusedSimpArgs false
namespace Go.Proofs.YtgklmafdbgnohaaGreat.Lt
open Go.RowKit Go.Proofs.YtgklmafdbgnohaaGreatW.PrintWords Go.Proofs.YtgklmafdbgnohaaGreatW.PrintLast Go.Proofs.YtgklmafdbgnohaaGreatW.PrintMore Go.Proofs.YtgklmafdbgnohaaGreat.Z Go.Proofs.YtgklmafdbgnohaaGreat.PA
def TopE (k:Nat) (L:List S32) (I:List S84) (e:S34) (N:List S32) (J:List S84):Prop :=
  ∃ (c:Int) (W:List S32) (K:List S84) (A B C:List S91) (ok:Bool),N.length≤1000 ∧
    impl_ProbeHappen.f k L e.f0 e.f1.f0 e.f1.f1=some (N,c)∧spec_ProbeHappen.f k L e.f0 e.f1.f0 e.f1.f1=some (W,c) ∧
    laws_wList.f k N W=some true∧((c != 0)=true→laws_wList.f k N L=some true)∧impl_ProbeFollow.f k I L e.f0 e.f1.f0 e.f1.f1=some J ∧
    impl_ProbeSkyOk.f k N=some true∧impl_ProbeIndexOf.f k N=some K∧laws_wIndex.f k J K=some true ∧
    impl_ProbeAsk.f k J e.f1.f0 e.f1.f1=some A∧impl_ProbeWith.f k N e.f1.f0 e.f1.f1=some B∧laws_wClashes.f k A B=some true ∧
    spec_ProbeWith.f k N e.f1.f0 e.f1.f1=some C∧laws_wClashes.f k B C=some true∧spec_ProbeTubeOk.f k e.f1.f0 e.f1.f1=some ok ∧
    (ok=true→∀ i:Nat,i<N.length→(rd_T32 N (i:Int)).f0.toList≠e.f1.f0.toList→∃ t,laws_wTold.f k B (rd_T32 N (i:Int)).f0=some t∧laws_wEver.f k e.f1.f0 e.f1.f1 (rd_T32 N (i:Int)).f0 (rd_T32 N (i:Int)).f1=some t)
def TopOk (k:Nat):List S34→List S32→List S84→Prop
  | [],_,_=>True
  | e::r,L,I=>∃ N J,TopE k L I e N J∧TopOk k r N J
theorem zc3 {w:World} {g:Nat} {t:TypeId} {a b c:Value} (h:Aside0 (w.heap[g]? = some (.cells #[a,b,c] t (0,0)))):w.cell? ⟨g,0,none⟩=some a∧w.cell? ⟨g,1,none⟩=some b∧w.cell? ⟨g,2,none⟩=some c∧w.frozen? ⟨g,0,none⟩=false∧w.frozen? ⟨g,1,none⟩=false∧w.frozen? ⟨g,2,none⟩=false:=⟨blk_cell h.out 0,blk_cell h.out 1,blk_cell h.out 2,blk_frozen h.out 0,blk_frozen h.out 1,blk_frozen h.out 2⟩
section
variable {w1 W W':World} {g5 g7:Nat} {v4 v5:Value} {C7:Array Value} {L N:List S32} {I J:List S84}
theorem S_fresh {α:Type} {d:Kd α} {e base g:Nat} {v:Value} {xs:List α} (h:Kd.S d e W' W.heap.size (fun _=>True) v xs) (hg:g<W.heap.size) (hb:base≤W.heap.size):Kd.S d e W' base (fun k=>k≠g) v xs :=
  Kd.S_lower (Kd.S_mono (Kd.S_bound h) fun k hk=>by have:=hk.2.1;omega) hb
structure LtS (w1:World) (g5:Nat) (v4 v5:Value) (L:List S32) (I:List S84) (W:World):Prop where
  bl:Below w1.heap.size w1 W
  l:Kd.S k32 32 W w1.heap.size (fun k=>k≠g5) v4 L
  i:Kd.S k84 84 W w1.heap.size (fun k=>k≠g5) v5 I
  b5:W.heap[g5]? = some (.cells #[v5] 28 (0,0))
  o5:w1.heap.size≤g5
theorem LtS.below (h:LtS w1 g5 v4 v5 L I W) (hb:Below W.heap.size W W'):LtS w1 g5 v4 v5 L I W':=⟨below_step h.bl hb,Kd.S_below h.l hb,Kd.S_below h.i hb,blk_below h.b5 hb,h.o5⟩
structure LtV (w1:World) (g5 g7:Nat) (v4 v5:Value) (C7:Array Value) (L:List S32) (I:List S84) (W:World):Prop where
  t:LtS w1 g5 v4 v5 L I W
  b7:W.heap[g7]? = some (.cells C7 34 (0,0))
  n7:g7≠g5
theorem LtV.below (h:LtV w1 g5 g7 v4 v5 C7 L I W) (hb:Below W.heap.size W W'):LtV w1 g5 g7 v4 v5 C7 L I W':=⟨h.t.below hb,blk_below h.b7 hb,h.n7⟩
theorem LtV.set {v8 v6:Value} (h:LtV w1 g5 g7 v4 v5 C7 L I W) (hN:Kd.S k32 32 W w1.heap.size (fun k=>k≠g5) v8 N) (hJ:Kd.S k84 84 W w1.heap.size (fun k=>k≠g5) v6 J):LtV w1 g5 g7 v8 v6 C7 N J (W.setCell ⟨g5,0,none⟩ v6) :=
  ⟨⟨below_set h.t.bl h.t.o5,Kd.S_far (p:=⟨g5,0,none⟩) hN (fun _ hk=>hk) v6,Kd.S_far (p:=⟨g5,0,none⟩) hJ (fun _ hk=>hk) v6,Z.bp (ra h.t.b5),h.t.o5⟩,blk_far h.b7 (p:=⟨g5,0,none⟩) h.n7 v6,h.n7⟩
end
end Go.Proofs.YtgklmafdbgnohaaGreat.Lt
namespace Go.Proofs.YtgklmafdbgnohaaGreat.PA
open Go.RowKit Go.Proofs.YtgklmafdbgnohaaGreatW.PrintWords Go.Proofs.YtgklmafdbgnohaaGreatW.PrintLast Go.Proofs.YtgklmafdbgnohaaGreatW.PrintMore Go.Proofs.YtgklmafdbgnohaaGreat.Z Go.Proofs.YtgklmafdbgnohaaGreat.Lt
def lt16.T:Bool × List (List Nat × List Nat):=(true,[([],[]),([0],[0]),([1],[1]),([2,1],[2]),([3],[3]),([3],[3]),([5,3,3],[3,5]),([4,6,6,3],[3,4,6]),([7,3],[3,7]),([3,8],[3,8]),([9,7],[9]),([10],[10]),([10],[10]),([12,10],[10,12]),([11,13,10,10],[10,11,13]),([10],[10]),([10],[10]),([16,10],[10,16]),([15,17,14,10],[10,15,17]),([14,18,18,10],[10,14,18]),([19,10],[10,19]),([10,20],[10,20]),([21,19],[21]),([22],[22]),([22],[22]),([24,22],[22,24]),([23,25,22,22],[22,23,25]),([22],[22]),([22],[22]),([28,22],[22,28]),([27,29,26,22],[22,27,29]),([26,30,30,22],[22,26,30]),([31,22],[22,31]),([22,32],[22,32])])
def lt16.B:List Nat:=[0,1,3,7,15,15,47,127,255,511,1023,2047,2047,6143,16383,2047,2047,67583,262143,524287,1048575,2097151,4194303,8388607,8388607,25165823,67108863,8388607,8388607,276824063,1073741823,2147483647,4294967295,8589934591]
theorem lt16.tab:rtab .any (opsOf Tryz.f3 16)=lt16.T:=by kernel_rfl
theorem lt16.bits:waitsOk lt16.T.2 lt16.B=true:=by kernel_rfl
def lt22.T:Bool × List (List Nat × List Nat):=(true,[([],[]),([],[]),([0,1],[0,1]),([2],[2]),([3],[3]),([],[]),([5],[5]),([6],[6]),([4,7],[4,7]),([8],[8]),([9],[9]),([9],[9]),([11,9],[9,11]),([10,12,9,9],[9,10,12]),([9],[9]),([9],[9]),([14,15,9],[9,14,15]),([16,9],[9,16]),([17,9],[9,17]),([13,18,13,9],[9,13,18]),([9],[9]),([20,9],[9,20]),([9],[9]),([9],[9]),([22,23,9],[9,22,23]),([24,9],[9,24]),([21,25,19,9],[9,21,25]),([19,26,9],[9,19,26]),([9,27],[9,27])])
def lt22.B:List Nat:=[0,0,3,7,15,0,32,96,255,511,1023,1023,3071,8191,1023,1023,50175,115711,246783,524287,1023,1049599,1023,1023,12583935,29361151,67108863,134217727,268435455]
theorem lt22.tab:rtab .any (opsOf Tryz.f3 22)=lt22.T:=by kernel_rfl
theorem lt22.bits:waitsOk lt22.T.2 lt22.B=true:=by kernel_rfl
set_option maxHeartbeats 8000000 in
set_option maxRecDepth 100000 in
theorem laws_FnTop.calls (A0:Option Addr) (c0:Nat) (code:List Int) (w:World) (hr0:Kd.C (Kd.int .u8) w A0 code.length code) (hc0:code.length≤c0)
    (hby:∀ x∈code,0≤x∧x≤255) (h:∀ E:List S34,E.length≤100→(∀ q∈E,q.f1.f1.length≤100∧q.f1.f0.size≤30)→∃ (k:Nat) (I0:List S84),impl_ProbeIndexOf.f k []=some I0∧TopOk k E [] I0) :
  Calls Tryz.prog 3 #[.slice A0 code.length c0] w fun e w'=>e = .returned (.bool true)∧Below w.heap.size w w':=by
 have hu0:=Tryz.underlying28;have hu1:=Tryz.underlying34;have hu2:=Tryz.underlying32;have hu3:=Tryz.underlying25
 have HR0:=Aside0.mk hr0;have HC0:=Aside0.mk hc0;have HBY:=Aside0.mk hby;have HH:=Aside0.mk h
 clear hr0 hc0 hby h;by_cases hl:1048576<code.length
 · have cl0:decide ((1048576:Int)<(code.length:Int))=true:=decide_eq_true (by omega);clear hl HH
   go_enter Tryz.func3,Tryz.ntmps3
   go_wp2_with fail
   go_ret
   exact ⟨re,Below.refl _ _⟩
 have cl0:decide ((1048576:Int)<(code.length:Int))=false:=decide_eq_false (by omega);clear hl
 go_enter Tryz.func3,Tryz.ntmps3
 go_upto_region 4 with (first
  | ((with_reducible refine gate_dst (N:=17) rfl ?_);refine gl (some 17) Tryz.func5 #[.slice A0 code.length c0] ?_;(with_reducible refine (revs HR0.out HC0.out HBY.out).mono ?_);rintro e w1 ⟨⟨v3_,E⟩,rfl,hE_,ho,hb⟩;dsimp only at hE_ ho hb ⊢;refine ⟨_,rfl,?_⟩;obtain ⟨A3,c3,e_⟩:=Kd.S_slice ho;subst e_;have HW:=ra hb;have HCE:=ra (Kd.S_reads' ho).2.2;have HLE:=ra (Kd.S_reads' ho).2.1;clear hb ho))
 obtain ⟨k,I0,hI,hT⟩:=HH.out E hE_.out.1 hE_.out.2;have HEL:Aside0 (E.length≤1000):=⟨by have:=hE_.out.1;omega⟩;have PI:=ra hI;have HTO:=ra hT
 obtain ⟨L0,hL0⟩:∃ L0:List S32,L0=[]:=⟨_,rfl⟩;rw [← hL0] at PI HTO;have NL:=ra hL0;clear hL0 hE_ hI hT HH
 go_upto_region 6 with (first
  | ((with_reducible refine gate_dst (N:=18) rfl ?_);refine Kd.S_lit k32 (w0:=w1) w1.heap.size 32 ?hg (N:=18) ?hd (xs:=([]:List S32)) (inner:=[]) (ok:=fun _=>True) (okp:=fun _=>True) ?hr ?hp (fun _ hk=>hk) trivial (Below.refl _ _) (Nat.le_refl _) (by simp) ?_;(case hd=>rfl);(case hg=>rfl);(case hr=>first | (go_simp;done) | (go_simp;rfl));(case hp=>exact (Reps.none _ _));intro v18 w2 ho hb hg_ hn_;clear hg_ hn_;rw [← NL.out] at ho;obtain ⟨A4,c4,e_⟩:=Kd.S_slice ho;subst e_;have K2:=ra hb;have X4:=ra ho;clear hb ho)
  | ((with_reducible refine gate_dst (N:=20) rfl ?_);refine gl (some 20) Tryz.func6 #[.slice A4 L0.length c4] ?_;(with_reducible refine (impl_ProbeIndexOf.calls _ _ _ L0 I0 _ (Kd.S_reads' X4.out).2.2 (Kd.S_reads' X4.out).2.1 PI.out).mono ?_);rintro e w3 ⟨v5_,rfl,ho,hb⟩;refine ⟨_,rfl,?_⟩;obtain ⟨D5,c5,e_⟩:=Kd.S_slice ho;subst e_;have K3:=ra (below_step K2.out hb);have X4b:=ra (Kd.S_below X4.out hb);have X5:=ra ho;have OW:=ra (below_size K2.out);clear hb ho X4 K2)
  | ((with_reducible refine gate_dst (N:=5) rfl ?_);refine be 5 #[.slice none 0 0] 28 ?_;intro g5 hg w4 hx hb;have DD:=ra hb;have BB:=ra hx;have GG:=ra (Nat.le_of_eq hg.symm);clear hb hx hg;obtain ⟨zz,zzf⟩:=zc1 BB))
 have DS:Below w3.heap.size w3 (w4.setCell ⟨g5,0,none⟩ (.slice D5 I0.length c5)):=below_set DD.out GG.out
 have HT:Aside0 (LtS w1 g5 (.slice A4 L0.length c4) (.slice D5 I0.length c5) L0 I0 (w4.setCell ⟨g5,0,none⟩ (.slice D5 I0.length c5))):=by
  have o3:=below_size K3.out;refine ⟨below_step K3.out DS,Kd.S_mono (Kd.S_below (Kd.S_bound X4b.out) DS) (fun k hk=>by have:=hk.2.2.1;have:=GG.out;omega),Kd.S_lower (Kd.S_mono (Kd.S_below (Kd.S_bound X5.out) DS) (fun k hk=>by have:=hk.2.2.1;have:=GG.out;omega)) OW.out,Z.bp BB,Nat.le_trans o3 GG.out⟩
 generalize w4.setCell ⟨g5,0,none⟩ (.slice D5 I0.length c5)=w5 at HT ⊢
 clear DD BB GG DS K3 X4b X5 OW zz zzf NL;have HT0:Aside0 (∃ (v4 v5:Value),v4 = .slice A4 L0.length c4∧LtS w1 g5 v4 v5 L0 I0 w5):=⟨_,_,rfl,HT.out⟩;clear HT;obtain ⟨v40,v50,e4,HTS⟩:=HT0.out;have HT:=ra HTS;clear HT0 HTS;rw [← e4];clear e4
 go_wp2_with fail
 go_loopg [4,6] E.length (fun kx s4 s6 wr=>∃ (i:Nat) (v4 v5:Value) (L:List S32) (I:List S84),s4=v4∧s6 = .int .i64 (i:Int)∧Aside0 (i≤E.length∧E.length - i≤kx)∧Aside0 (TopOk k (E.drop i) L I)∧Aside0 (LtS w1 g5 v4 v5 L I wr))
 case atStart=>exact ⟨0,v40,v50,L0,I0,rfl,rfl,⟨Nat.zero_le _,Nat.le_refl _⟩,HTO,HT⟩
 case round =>
  clear HT HTO PI;obtain ⟨i,v4,v5,L,I,rfl,rfl,HX,HO,HT⟩:=hrel;by_cases hlt:i<E.length
  · have hxz : (i:Int)<(E.length:Int):=by omega
    have hx0:(0:Int)≤(i:Int):=by omega
    obtain ⟨ad,AB,cb,e,ht0,ht1,ht2,hlb,hCB⟩:=at_T34 HCE.out (i:Int) hx0 hxz;cases e
    have HD:E.drop i=rd_T34 E (i:Int)::E.drop (i+1):=by rw [List.drop_eq_getElem_cons hlt];congr 1;unfold rd_T34;simp [hlt]
    rw [HD] at HO;clear HD
    generalize rd_T34 E (i:Int)=ev at ht0 ht1 ht2 hlb hCB HO
    simp only [Int.toNat_natCast] at ht0 ht1 ht2;obtain ⟨N,J,⟨c,Wt,KI,A,B,C,ok,hn,p1,p2,p3,p4,p5,p6,p7,p8,p9,p10,p11,p12,p13,p14,p15⟩,HO2⟩:=HO.out;have HN:=ra hn;have P1:=ra p1;have P2:=ra p2;have P3:=ra p3;have P4:=ra p4;have P5:=ra p5;have P6:=ra p6;have P7:=ra p7;have P8:=ra p8;have P9:=ra p9;have P10:=ra p10;have P11:=ra p11;have P12:=ra p12;have P13:=ra p13;have P14:=ra p14;have P15:=ra p15;have HO':=ra HO2;have HCB:=ra hCB;have HLB:=ra hlb
    clear hn p1 p2 p3 p4 p5 p6 p7 p8 p9 p10 p11 p12 p13 p14 p15 HO HO2 hCB hlb;obtain ⟨A4,c4,e_⟩:=Kd.S_slice HT.out.l;subst e_;have ht0:=hc (ra HT.out.bl) ht0;have ht1:=hc (ra HT.out.bl) ht1;have ht2:=hc (ra HT.out.bl) ht2
    have hx0':=eq_true hx0;have hxz':=eq_true hxz
    go_upto_region 10 with (first
     | ((with_reducible refine gate_dst (N:=7) rfl ?_);refine be 7 #[.bool false, .string ⟨#[]⟩, .slice none 0 0] 34 ?_;intro g7 hg wa hx hb;have DD:=ra hb;have BB:=ra hx;have GG:=ra (Nat.le_of_eq hg.symm);clear hb hx hg;obtain ⟨zza,zzb,zzc,zzf,zzg,zzh⟩:=zc3 BB))
    have DS:Below wr.heap.size wr (((wa.setCell ⟨g7,0,none⟩ (.bool ev.f0)).setCell ⟨g7,1,none⟩ (.string ev.f1.f0)).setCell ⟨g7,2,none⟩ (.slice AB ev.f1.f1.length cb)):=below_set (below_set (below_set DD.out GG.out) GG.out) GG.out;have HV:Aside0 (LtV w1 g5 g7 (.slice A4 L.length c4) v5 #[.bool ev.f0, .string ev.f1.f0, .slice AB ev.f1.f1.length cb] L I (((wa.setCell ⟨g7,0,none⟩ (.bool ev.f0)).setCell ⟨g7,1,none⟩ (.string ev.f1.f0)).setCell ⟨g7,2,none⟩ (.slice AB ev.f1.f1.length cb))):=⟨HT.out.below DS,Z.bp BB,by have h1:=blk_lt HT.out.b5;have h2:=GG.out;omega⟩
    generalize ((wa.setCell ⟨g7,0,none⟩ (.bool ev.f0)).setCell ⟨g7,1,none⟩ (.string ev.f1.f0)).setCell ⟨g7,2,none⟩ (.slice AB ev.f1.f1.length cb)=wb at HV ⊢
    clear HT DD BB GG DS zza zzb zzc zzf zzg zzh ht0 ht1 ht2 hx0 hx0' hxz hxz';obtain ⟨z7a,z7b,z7c,_⟩:=zc3 (ra HV.out.b7)
    go_upto_region 11 with (first
     | ((with_reducible refine gate_dst (N:=34) rfl ?_);refine gl (some 34) Tryz.func7 #[.slice A4 L.length c4, .agg #[.bool ev.f0, .string ev.f1.f0, .slice AB ev.f1.f1.length cb]] ?_;(with_reducible refine (impl_ProbeHappen.calls _ _ _ L _ _ _ _ ev.f1.f1 N c _ (Kd.S_reads' HV.out.t.l).2.2 (Kd.S_reads' HV.out.t.l).2.1 (Kd.C_below HCB.out HV.out.t.bl) HLB.out P1.out).mono ?_);rintro e wc ⟨v8_,rfl,ho,hb⟩;refine ⟨_,rfl,?_⟩;have XN:Aside0 (Kd.S k32 32 wc w1.heap.size (fun k=>k≠g5) v8_ N):=⟨S_fresh ho (blk_lt HV.out.t.b5) (below_size HV.out.t.bl)⟩;clear z7a z7b z7c;have V2:=ra (HV.out.below hb);clear HV;have HV:=V2;clear V2;obtain ⟨z7a,z7b,z7c,_⟩:=zc3 (ra HV.out.b7);obtain ⟨D8,c8,e_⟩:=Kd.S_slice ho;subst e_;clear hb ho))
    go_upto_region 12 with (first
     | ((with_reducible refine gate_dst (N:=40) rfl ?_);refine gl (some 40) Tryz.func8 #[.slice A4 L.length c4, .agg #[.bool ev.f0, .string ev.f1.f0, .slice AB ev.f1.f1.length cb]] ?_;(with_reducible refine (spec_ProbeHappen.calls _ (fun k=>k<wc.heap.size) _ _ L _ _ (fun k=>k<wc.heap.size) _ _ ev.f1.f1 Wt c wc (Kd.V_mk (Kd.S_reads' HV.out.t.l).2.1 (Kd.C_F k32_heap (Kd.S_reads' HV.out.t.l).2.2)) (Kd.V_mk HLB.out (Kd.C_F k75_heap (Kd.C_below HCB.out HV.out.t.bl))) P2.out).mono ?_);rintro e wd ⟨v10_,rfl,ho,hb⟩;refine ⟨_,rfl,?_⟩;clear z7a z7b z7c;have V2:=ra (HV.out.below hb);clear HV;have HV:=V2;clear V2;have XNb:=ra (Kd.S_below XN.out hb);clear XN;have XN:=XNb;clear XNb;obtain ⟨D10,c10,e_⟩:=Kd.S_slice ho;subst e_;have XW:=ra ho;clear hb ho))
    have hcc:(c != c)=false:=bne_self_eq_false c;obtain ⟨b,hb0⟩:∃ b,(c != 0)=b:=⟨_,rfl⟩;rw [hb0] at P4;cases b
    all_goals
     go_upto_region 14 with (first
      | ((with_reducible refine (laws_wList.calls _ _ _ N _ _ Wt true _ (Kd.S_reads' XN.out).2.2 (Kd.S_reads' XN.out).2.1 (Kd.S_reads' XW.out).2.2 (Kd.S_reads' XW.out).2.1 P3.out).mono ?_);rintro e we ⟨rfl,hb⟩;have V2:=ra (HV.out.below hb);clear HV;have HV:=V2;clear V2;have XNb:=ra (Kd.S_below XN.out hb);clear XN;have XN:=XNb;clear XNb;clear hb XW)
      | ((with_reducible refine (laws_wList.calls _ _ _ N _ _ L true _ (Kd.S_reads' XN.out).2.2 (Kd.S_reads' XN.out).2.1 (Kd.S_reads' HV.out.t.l).2.2 (Kd.S_reads' HV.out.t.l).2.1 (P4.out (by trivial))).mono ?_);rintro e wf ⟨rfl,hb⟩;have V2:=ra (HV.out.below hb);clear HV;have HV:=V2;clear V2;have XNb:=ra (Kd.S_below XN.out hb);clear XN;have XN:=XNb;clear XNb;clear hb))
     clear hcc hb0 P4;obtain ⟨A5,c5,e_⟩:=Kd.S_slice HV.out.t.i;subst e_;obtain ⟨z7a,z7b,z7c,_⟩:=zc3 (ra HV.out.b7);obtain ⟨z5,z5f⟩:=zc1 (ra HV.out.t.b5)
     go_upto_region 15 with (first
      | ((with_reducible refine gate_dst (N:=65) rfl ?_);refine gl (some 65) Tryz.func10 #[.agg #[.slice A5 I.length c5], .slice A4 L.length c4, .agg #[.bool ev.f0, .string ev.f1.f0, .slice AB ev.f1.f1.length cb]] ?_;(with_reducible refine (impl_ProbeFollow.calls _ _ _ I _ _ L _ _ _ _ ev.f1.f1 J _ (Kd.S_reads' HV.out.t.i).2.2 (Kd.S_reads' HV.out.t.i).2.1 (Kd.S_reads' HV.out.t.l).2.2 (Kd.S_reads' HV.out.t.l).2.1 (Kd.C_below HCB.out HV.out.t.bl) HLB.out P5.out).mono ?_);rintro e wg ⟨v6_,rfl,ho,hb⟩;refine ⟨_,rfl,?_⟩;clear z5 z5f;have XJ:Aside0 (Kd.S k84 84 wg w1.heap.size (fun k=>k≠g5) v6_ J):=⟨S_fresh ho (blk_lt HV.out.t.b5) (below_size HV.out.t.bl)⟩;clear z7a z7b z7c;have V2:=ra (HV.out.below hb);clear HV;have HV:=V2;clear V2;have XNb:=ra (Kd.S_below XN.out hb);clear XN;have XN:=XNb;clear XNb;obtain ⟨D6,c6,e_⟩:=Kd.S_slice ho;subst e_;clear hb ho;obtain ⟨z5,z5f⟩:=zc1 (ra HV.out.t.b5)))
     have HV2:=ra (HV.out.set XN.out XJ.out);clear z5 z5f HV XN XJ;have HV:=HV2;clear HV2
     generalize HWH:World.setCell _ _ _=wh at HV ⊢
     clear HWH
     go_wp2_with fail
     have HVd:Aside0 (LtV w1 g5 g7 (.slice D8 N.length c8) (.slice D6 J.length c6) #[.bool ev.f0, .string ev.f1.f0, .slice AB ev.f1.f1.length cb] N J wh.drew):=⟨HV.out.below (pw_below_drewN (Below.refl _ _) 1)⟩;clear HV;have HV:=HVd;clear HVd
     refine start_ (n:=34) (S:=fun w'=>w'.cell? ⟨g5,0,none⟩=some (.slice D6 J.length c6)∧w'.cell? ⟨g7,0,none⟩=some (.bool ev.f0)∧w'.cell? ⟨g7,1,none⟩=some (.string ev.f1.f0)∧w'.cell? ⟨g7,2,none⟩=some (.slice AB ev.f1.f1.length cb)) (ds:=[]) (bl 34 0) (by kernel_rfl) rfl rfl ⟨(blk_cell HV.out.t.b5 0).trans rfl,(blk_cell HV.out.b7 0).trans rfl,(blk_cell HV.out.b7 1).trans rfl,(blk_cell HV.out.b7 2).trans rfl⟩ (fun hHeld=>?_);refine with_tabW lt16.tab lt16.bits (fun HT_ HW_=>?_)
     generalize wh.drew=wi at HV hHeld ⊢
     refine pu 0 67 (bl 34 1) ?_;refine oe 1 68 (bl 34 3) (fun K hK=>?_);refine gs Tryz.func11 #[.slice D8 N.length c8] ?_
     with_reducible refine (impl_ProbeSkyOk.calls _ _ _ N true _ (Kd.S_reads' HV.out.t.l).2.2 (Kd.S_reads' HV.out.t.l).2.1 P6.out).mono ?_
     rintro e wj1 ⟨rfl,hb⟩
     refine ⟨_,rfl,?_⟩;have V2:=ra (HV.out.below hb);clear HV;have HV:=V2;clear V2
     clear hb;refine hK.out _ _ ⟨(blk_cell HV.out.t.b5 0).trans rfl,(blk_cell HV.out.b7 0).trans rfl,(blk_cell HV.out.b7 1).trans rfl,(blk_cell HV.out.b7 2).trans rfl⟩ (fun hHeld=>?_);clear hK K;refine nm 68 ?_;refine pu 2 69 (bl 34 7) ?_;refine pu 3 70 (bl 34 15) ?_;refine tk 4 71 (bl 34 31) ?_ hHeld;refine pu 5 72 (bl 34 63) ?_;refine oe 6 73 (bl 34 127) (fun K hK=>?_);refine gs Tryz.func6 #[.slice D8 N.length c8] ?_
     with_reducible refine (impl_ProbeIndexOf.calls _ _ _ N KI _ (Kd.S_reads' HV.out.t.l).2.2 (Kd.S_reads' HV.out.t.l).2.1 P7.out).mono ?_
     rintro e wj2 ⟨vk_,rfl,ho,hb⟩
     refine ⟨_,rfl,?_⟩;have V2:=ra (HV.out.below hb);clear HV;have HV:=V2;clear V2
     obtain ⟨DK,ck,e_⟩:=Kd.S_slice ho;subst e_;have XK:=ra ho;clear hb ho
     refine hK.out _ _ ⟨(blk_cell HV.out.t.b5 0).trans rfl,(blk_cell HV.out.b7 0).trans rfl,(blk_cell HV.out.b7 1).trans rfl,(blk_cell HV.out.b7 2).trans rfl⟩ (fun hHeld=>?_);clear hK K;refine nm 73 ?_;refine oe 7 74 (bl 34 255) (fun K hK=>?_);refine gs Tryz.func12 #[.agg #[.slice D6 J.length c6], .agg #[.slice DK KI.length ck]] ?_
     with_reducible refine (laws_wIndex.calls _ _ _ J _ _ KI true _ (Kd.S_reads' HV.out.t.i).2.2 (Kd.S_reads' HV.out.t.i).2.1 (Kd.S_reads' XK.out).2.2 (Kd.S_reads' XK.out).2.1 P8.out).mono ?_
     rintro e wj3 ⟨rfl,hb⟩
     refine ⟨_,rfl,?_⟩;have V2:=ra (HV.out.below hb);clear HV;have HV:=V2;clear V2
     clear hb XK;refine hK.out _ _ ⟨(blk_cell HV.out.t.b5 0).trans rfl,(blk_cell HV.out.b7 0).trans rfl,(blk_cell HV.out.b7 1).trans rfl,(blk_cell HV.out.b7 2).trans rfl⟩ (fun hHeld=>?_);clear hK K;refine nm 74 ?_;refine pu 8 75 (bl 34 511) ?_;refine pu 9 76 (bl 34 1023) ?_;refine pu 10 77 (bl 34 2047) ?_;refine tk 11 78 (bl 34 4095) ?_ hHeld;refine pu 12 79 (bl 34 8191) ?_;refine tk 13 80 (bl 34 16383) ?_ hHeld;refine pu 15 82 (bl 34 49151) ?_;refine pu 16 83 (bl 34 114687) ?_;refine tk 17 84 (bl 34 245759) ?_ hHeld;refine oe 14 81 (bl 34 262143) (fun K hK=>?_);refine gs Tryz.func14 #[.agg #[.slice D6 J.length c6], .agg #[.string ev.f1.f0, .slice AB ev.f1.f1.length cb]] ?_
     with_reducible refine (impl_ProbeAsk.calls _ _ _ J _ _ _ ev.f1.f1 A _ (Kd.S_reads' HV.out.t.i).2.2 (Kd.S_reads' HV.out.t.i).2.1 (Kd.C_below HCB.out HV.out.t.bl) HLB.out P9.out).mono ?_
     rintro e wj4 ⟨va_,rfl,ho,hb⟩
     refine ⟨_,rfl,?_⟩;have V2:=ra (HV.out.below hb);clear HV;have HV:=V2;clear V2
     obtain ⟨DA,ca,e_⟩:=Kd.R_slice ho;subst e_;have XA:=ra ho;clear hb ho
     refine hK.out _ _ ⟨(blk_cell HV.out.t.b5 0).trans rfl,(blk_cell HV.out.b7 0).trans rfl,(blk_cell HV.out.b7 1).trans rfl,(blk_cell HV.out.b7 2).trans rfl⟩ (fun hHeld=>?_);clear hK K;refine nm 81 ?_;refine oe 18 85 (bl 34 524287) (fun K hK=>?_);refine gs Tryz.func15 #[.slice D8 N.length c8, .agg #[.string ev.f1.f0, .slice AB ev.f1.f1.length cb]] ?_
     with_reducible refine (impl_ProbeWith.calls _ _ _ N _ _ _ ev.f1.f1 B _ (Kd.S_reads' HV.out.t.l).2.2 (Kd.S_reads' HV.out.t.l).2.1 (Kd.C_below HCB.out HV.out.t.bl) HLB.out P10.out).mono ?_
     rintro e wj5 ⟨vb_,rfl,ho,hb⟩
     refine ⟨_,rfl,?_⟩;have V2:=ra (HV.out.below hb);clear HV;have HV:=V2;clear V2
     have XAb:=ra (Kd.R_below XA.out hb);clear XA;have XA:=XAb;clear XAb
     obtain ⟨DB,cb2,e_⟩:=Kd.R_slice ho;subst e_;have XB:=ra ho;clear hb ho
     refine hK.out _ _ ⟨(blk_cell HV.out.t.b5 0).trans rfl,(blk_cell HV.out.b7 0).trans rfl,(blk_cell HV.out.b7 1).trans rfl,(blk_cell HV.out.b7 2).trans rfl⟩ (fun hHeld=>?_);clear hK K;refine nm 85 ?_;refine oe 19 86 (bl 34 1048575) (fun K hK=>?_);refine gs Tryz.func13 #[.slice DA A.length ca, .slice DB B.length cb2] ?_
     with_reducible refine (laws_wClashes.calls _ _ _ A _ _ B true _ (Kd.R_reads' XA.out).2.2 (Kd.R_reads' XA.out).2.1 (Kd.R_reads' XB.out).2.2 (Kd.R_reads' XB.out).2.1 P11.out).mono ?_
     rintro e wj6 ⟨rfl,hd⟩
     refine ⟨_,rfl,?_⟩;have hb:=hd.below;have V2:=ra (HV.out.below hb);clear HV;have HV:=V2;clear V2
     clear hb hd XA XB;refine hK.out _ _ ⟨(blk_cell HV.out.t.b5 0).trans rfl,(blk_cell HV.out.b7 0).trans rfl,(blk_cell HV.out.b7 1).trans rfl,(blk_cell HV.out.b7 2).trans rfl⟩ (fun hHeld=>?_);clear hK K;refine nm 86 ?_;refine pu 20 87 (bl 34 2097151) ?_;refine pu 21 88 (bl 34 4194303) ?_;refine pu 22 89 (bl 34 8388607) ?_;refine pu 23 90 (bl 34 16777215) ?_;refine pu 24 91 (bl 34 33554431) ?_;refine tk 25 92 (bl 34 67108863) ?_ hHeld;refine pu 27 94 (bl 34 201326591) ?_;refine pu 28 95 (bl 34 469762047) ?_;refine tk 29 96 (bl 34 1006632959) ?_ hHeld;refine oe 26 93 (bl 34 1073741823) (fun K hK=>?_);refine gs Tryz.func15 #[.slice D8 N.length c8, .agg #[.string ev.f1.f0, .slice AB ev.f1.f1.length cb]] ?_
     with_reducible refine (impl_ProbeWith.calls _ _ _ N _ _ _ ev.f1.f1 B _ (Kd.S_reads' HV.out.t.l).2.2 (Kd.S_reads' HV.out.t.l).2.1 (Kd.C_below HCB.out HV.out.t.bl) HLB.out P10.out).mono ?_
     rintro e wj7 ⟨vb_,rfl,ho,hb⟩
     refine ⟨_,rfl,?_⟩;have V2:=ra (HV.out.below hb);clear HV;have HV:=V2;clear V2
     obtain ⟨DB2,cb3,e_⟩:=Kd.R_slice ho;subst e_;have XB:=ra ho;clear hb ho
     refine hK.out _ _ ⟨(blk_cell HV.out.t.b5 0).trans rfl,(blk_cell HV.out.b7 0).trans rfl,(blk_cell HV.out.b7 1).trans rfl,(blk_cell HV.out.b7 2).trans rfl⟩ (fun hHeld=>?_);clear hK K;refine nm 93 ?_;refine oe 30 97 (bl 34 2147483647) (fun K hK=>?_);refine gs Tryz.func16 #[.slice D8 N.length c8, .agg #[.string ev.f1.f0, .slice AB ev.f1.f1.length cb]] ?_
     with_reducible refine (spec_ProbeWith.calls _ _ _ N _ _ _ ev.f1.f1 C _ (Kd.S_reads' HV.out.t.l).2.2 (Kd.S_reads' HV.out.t.l).2.1 (Kd.C_below HCB.out HV.out.t.bl) HLB.out P12.out).mono ?_
     rintro e wj8 ⟨vc_,rfl,ho,hb⟩
     refine ⟨_,rfl,?_⟩;have V2:=ra (HV.out.below hb);clear HV;have HV:=V2;clear V2
     have XBb:=ra (Kd.R_below XB.out hb);clear XB;have XB:=XBb;clear XBb
     obtain ⟨DC,cc,e_⟩:=Kd.R_slice ho;subst e_;have XC:=ra ho;clear hb ho
     refine hK.out _ _ ⟨(blk_cell HV.out.t.b5 0).trans rfl,(blk_cell HV.out.b7 0).trans rfl,(blk_cell HV.out.b7 1).trans rfl,(blk_cell HV.out.b7 2).trans rfl⟩ (fun hHeld=>?_);clear hK K;refine nm 97 ?_;refine oe 31 98 (bl 34 4294967295) (fun K hK=>?_);refine gs Tryz.func13 #[.slice DB2 B.length cb3, .slice DC C.length cc] ?_
     with_reducible refine (laws_wClashes.calls _ _ _ B _ _ C true _ (Kd.R_reads' XB.out).2.2 (Kd.R_reads' XB.out).2.1 (Kd.R_reads' XC.out).2.2 (Kd.R_reads' XC.out).2.1 P13.out).mono ?_
     rintro e wj9 ⟨rfl,hd⟩
     refine ⟨_,rfl,?_⟩;have hb:=hd.below;have V2:=ra (HV.out.below hb);clear HV;have HV:=V2;clear V2
     clear hb hd XB XC;refine hK.out _ _ ⟨(blk_cell HV.out.t.b5 0).trans rfl,(blk_cell HV.out.b7 0).trans rfl,(blk_cell HV.out.b7 1).trans rfl,(blk_cell HV.out.b7 2).trans rfl⟩ (fun hHeld=>?_);clear hK K;refine nm 98 ?_;refine pu 32 99 (bl 34 8589934591) ?_;refine pu 33 100 (bl 34 17179869183) ?_;refine done_ (done_of HT_.out (by kernel_rfl)) ?_;clear hHeld HT_ HW_;obtain ⟨z5,_⟩:=zc1 (ra HV.out.t.b5);obtain ⟨z7a,z7b,z7c,_⟩:=zc3 (ra HV.out.b7);cases ok
     · go_wp2_with (first
        | ((with_reducible refine gate_dst (N:=103) rfl ?_);refine gl (some 103) Tryz.func17 #[.agg #[.string ev.f1.f0, .slice AB ev.f1.f1.length cb]] ?_;(with_reducible refine (spec_ProbeTubeOk.calls _ _ _ _ ev.f1.f1 false _ (Kd.C_below HCB.out HV.out.t.bl) HLB.out P14.out).mono ?_);rintro e ws ⟨rfl,hb⟩;refine ⟨_,rfl,?_⟩;clear z5 z7a z7b z7c;have V2:=ra (HV.out.below hb);clear HV;have HV:=V2;clear V2;obtain ⟨z5,_⟩:=zc1 (ra HV.out.t.b5);obtain ⟨z7a,z7b,z7c,_⟩:=zc3 (ra HV.out.b7);clear hb))
       go_roundg (E.length - (i+1))
       case measure=>have:=HX.out;omega
       case rel=>exact ⟨i+1,_,_,N,J,rfl,by congr 1;unfold wrap64;have:=HEL.out;omega,⟨by omega,Nat.le_refl _⟩,HO',ra HV.out.t⟩
     · go_wp2_with (first
        | ((with_reducible refine gate_dst (N:=103) rfl ?_);refine gl (some 103) Tryz.func17 #[.agg #[.string ev.f1.f0, .slice AB ev.f1.f1.length cb]] ?_;(with_reducible refine (spec_ProbeTubeOk.calls _ _ _ _ ev.f1.f1 true _ (Kd.C_below HCB.out HV.out.t.bl) HLB.out P14.out).mono ?_);rintro e ws ⟨rfl,hb⟩;refine ⟨_,rfl,?_⟩;clear z5 z7a z7b z7c;have V2:=ra (HV.out.below hb);clear HV;have HV:=V2;clear V2;obtain ⟨z5,_⟩:=zc1 (ra HV.out.t.b5);obtain ⟨z7a,z7b,z7c,_⟩:=zc3 (ra HV.out.b7);clear hb))
       go_loopg [12] N.length (fun kx s12 wr2=>∃ (j:Nat),s12 = .int .i64 (j:Int)∧Aside0 (j≤N.length∧N.length - j≤kx)∧Aside0 (LtV w1 g5 g7 (.slice D8 N.length c8) (.slice D6 J.length c6) #[.bool ev.f0, .string ev.f1.f0, .slice AB ev.f1.f1.length cb] N J wr2))
       case atStart=>exact ⟨0,rfl,⟨Nat.zero_le _,Nat.le_refl _⟩,HV⟩
       case round =>
        clear HV z5 z7a z7b z7c;obtain ⟨j,rfl,HY,HV⟩:=hrel;by_cases hlt2:j<N.length
        · have hyz:(j:Int)<(N.length:Int):=by omega
          have hy0:(0:Int)≤(j:Int):=by omega
          obtain ⟨ad2,A2,c2,e,hn0,hn1,hn2,hn3⟩:=at_T32 (Kd.S_reads' HV.out.t.l).2.2 (j:Int) hy0 hyz;cases e
          simp only [Int.toNat_natCast] at hn0 hn1;have hP:=P15.out (by trivial) j hlt2
          generalize rd_T32 N (j:Int)=tu at hn0 hn1 hn2 hn3 hP
          have hy0':=eq_true hy0;have hyz':=eq_true hyz
          have M2:=ra hn2;have M3:=ra hn3;have MW:=ra (Below.refl wr.heap.size wr)
          obtain ⟨z7a,z7b,z7c,_⟩:=zc3 (ra HV.out.b7);clear z7a z7b z7c;have HN1:Aside0 (∀ w',Below wr.heap.size wr w'→w'.cell? (ad2.add (j * 2))=some (.string tu.f0)):=⟨fun w' hb=>hc (ra hb) hn0⟩;have HN2:Aside0 (∀ w',Below wr.heap.size wr w'→w'.cell? ⟨(ad2.add (j * 2)).block,(ad2.add (j * 2)).off+1,none⟩=some (.slice A2 tu.f1.length c2)):=⟨fun w' hb=>hc (ra hb) hn1⟩;clear hn0 hn1 hn2 hn3;by_cases hq:tu.f0.toList=ev.f1.f0.toList
          · have hqb:(tu.f0.toList != ev.f1.f0.toList)=false:=by rw [hq];exact bne_self_eq_false _
            have hqe:(tu.f0.toList==ev.f1.f0.toList)=true:=beq_iff_eq.mpr hq;clear hP M2 M3 hq
            go_wp2_with fail
            have HVd:Aside0 (LtV w1 g5 g7 (.slice (some ad2) N.length c8) (.slice D6 J.length c6) #[.bool ev.f0, .string ev.f1.f0, .slice AB ev.f1.f1.length cb] N J wr.drew):=⟨HV.out.below (pw_below_drewN (Below.refl _ _) 1)⟩;clear HV;have HV:=HVd;clear HVd
            have MWd:Aside0 (Below wr.heap.size wr wr.drew):=⟨(pw_below_drewN (Below.refl _ _) 1)⟩;clear MW;have MW:=MWd;clear MWd
            refine start_ (n:=29) (S:=fun w'=>w'.cell? (ad2.add (j * 2))=some (.string tu.f0)∧w'.cell? ⟨(ad2.add (j * 2)).block,(ad2.add (j * 2)).off+1,none⟩=some (.slice A2 tu.f1.length c2)∧w'.cell? ⟨g7,0,none⟩=some (.bool ev.f0)∧w'.cell? ⟨g7,1,none⟩=some (.string ev.f1.f0)∧w'.cell? ⟨g7,2,none⟩=some (.slice AB ev.f1.f1.length cb)) (ds:=[]) (bl 29 0) (by kernel_rfl) rfl rfl ⟨HN1.out _ MW.out,HN2.out _ MW.out,(blk_cell HV.out.b7 0).trans rfl,(blk_cell HV.out.b7 1).trans rfl,(blk_cell HV.out.b7 2).trans rfl⟩ (fun hHeld=>?_);refine with_tabW lt22.tab lt22.bits (fun HT_ HW_=>?_)
            generalize wr.drew=wk0 at HV MW hHeld ⊢
            refine pu 0 111 (bl 29 1) ?_;refine pu 1 112 (bl 29 3) ?_;refine pu 2 113 (bl 29 7) ?_;refine pu 3 114 (bl 29 15) ?_;refine tk 4 115 (bl 29 31) ?_ hHeld;refine pu 5 116 (bl 29 63) ?_;refine pu 6 117 (bl 29 127) ?_;refine tk 7 118 (bl 29 255) ?_ hHeld;refine pu 8 119 (bl 29 511) ?_;refine pu 9 120 (bl 29 1023) ?_;refine pv 10 121 (bl 29 2047) ?_;refine pv 11 122 (bl 29 4095) ?_;refine pv 12 123 (bl 29 8191) ?_;refine pv 13 124 (bl 29 16383) ?_;refine pv 14 125 (bl 29 32767) ?_;refine pv 15 126 (bl 29 65535) ?_;refine pv 16 127 (bl 29 131071) ?_;refine pv 17 128 (bl 29 262143) ?_;refine pv 18 129 (bl 29 524287) ?_;refine pv 19 130 (bl 29 1048575) ?_;refine pv 20 131 (bl 29 2097151) ?_;refine pv 21 132 (bl 29 4194303) ?_;refine pv 22 133 (bl 29 8388607) ?_;refine pv 23 134 (bl 29 16777215) ?_;refine pv 24 135 (bl 29 33554431) ?_;refine pv 25 136 (bl 29 67108863) ?_;refine pv 26 137 (bl 29 134217727) ?_;refine pv 27 138 (bl 29 268435455) ?_;refine pu 28 139 (bl 29 536870911) ?_
            refine done_ (done_of HT_.out (by kernel_rfl)) ?_;clear hHeld HT_ HW_
            go_wp2_with fail
            go_roundg (N.length - (j+1))
            case measure=>have:=HY.out;omega
            case rel=>exact ⟨j+1,by congr 1;unfold wrap64;have:=HN.out;omega,⟨by omega,Nat.le_refl _⟩,HV⟩
          · have hqb:(tu.f0.toList != ev.f1.f0.toList)=true:=bne_iff_ne.mpr hq;have hqe:(tu.f0.toList==ev.f1.f0.toList)=false:=beq_eq_false_iff_ne.mpr hq;obtain ⟨t,hp1,hp2⟩:=hP hq;have PT:=ra hp1;have PV:=ra hp2;have htt:(t != t)=false:=bne_self_eq_false t;have htt2:(t==t)=true:=beq_self_eq_true t
            clear hP hp1 hp2 hq
            go_wp2_with fail
            have HVd:Aside0 (LtV w1 g5 g7 (.slice (some ad2) N.length c8) (.slice D6 J.length c6) #[.bool ev.f0, .string ev.f1.f0, .slice AB ev.f1.f1.length cb] N J wr.drew):=⟨HV.out.below (pw_below_drewN (Below.refl _ _) 1)⟩;clear HV;have HV:=HVd;clear HVd
            have MWd:Aside0 (Below wr.heap.size wr wr.drew):=⟨(pw_below_drewN (Below.refl _ _) 1)⟩;clear MW;have MW:=MWd;clear MWd
            refine start_ (n:=29) (S:=fun w'=>w'.cell? (ad2.add (j * 2))=some (.string tu.f0)∧w'.cell? ⟨(ad2.add (j * 2)).block,(ad2.add (j * 2)).off+1,none⟩=some (.slice A2 tu.f1.length c2)∧w'.cell? ⟨g7,0,none⟩=some (.bool ev.f0)∧w'.cell? ⟨g7,1,none⟩=some (.string ev.f1.f0)∧w'.cell? ⟨g7,2,none⟩=some (.slice AB ev.f1.f1.length cb)) (ds:=[]) (bl 29 0) (by kernel_rfl) rfl rfl ⟨HN1.out _ MW.out,HN2.out _ MW.out,(blk_cell HV.out.b7 0).trans rfl,(blk_cell HV.out.b7 1).trans rfl,(blk_cell HV.out.b7 2).trans rfl⟩ (fun hHeld=>?_);refine with_tabW lt22.tab lt22.bits (fun HT_ HW_=>?_)
            generalize wr.drew=wk0 at HV MW hHeld ⊢
            refine pu 0 111 (bl 29 1) ?_;refine pu 1 112 (bl 29 3) ?_;refine pu 2 113 (bl 29 7) ?_;refine pu 3 114 (bl 29 15) ?_;refine tk 4 115 (bl 29 31) ?_ hHeld;refine pu 5 116 (bl 29 63) ?_;refine pu 6 117 (bl 29 127) ?_;refine tk 7 118 (bl 29 255) ?_ hHeld;refine pu 8 119 (bl 29 511) ?_;refine pu 9 120 (bl 29 1023) ?_;refine pu 10 121 (bl 29 2047) ?_;refine pu 11 122 (bl 29 4095) ?_;refine tk 12 123 (bl 29 8191) ?_ hHeld;refine pu 14 125 (bl 29 24575) ?_;refine pu 15 126 (bl 29 57343) ?_;refine pu 16 127 (bl 29 122879) ?_;refine pu 17 128 (bl 29 253951) ?_;refine tk 18 129 (bl 29 516095) ?_ hHeld;refine pu 20 131 (bl 29 1564671) ?_;refine tk 21 132 (bl 29 3661823) ?_ hHeld;refine pu 22 133 (bl 29 7856127) ?_;refine pu 23 134 (bl 29 16244735) ?_;refine pu 24 135 (bl 29 33021951) ?_;refine tk 25 136 (bl 29 66576383) ?_ hHeld;refine oe 13 124 (bl 29 66584575) (fun K hK=>?_)
            refine gs Tryz.func15 #[.slice (some ad2) N.length c8, .agg #[.string ev.f1.f0, .slice AB ev.f1.f1.length cb]] ?_
            with_reducible refine (impl_ProbeWith.calls _ _ _ N _ _ _ ev.f1.f1 B _ (Kd.S_reads' HV.out.t.l).2.2 (Kd.S_reads' HV.out.t.l).2.1 (Kd.C_below HCB.out HV.out.t.bl) HLB.out P10.out).mono ?_
            rintro e wk1 ⟨vb_,rfl,ho,hb⟩
            refine ⟨_,rfl,?_⟩;have V2:=ra (HV.out.below hb);clear HV;have HV:=V2;clear V2
            have MW2:=ra (below_step MW.out hb);clear MW;have MW:=MW2;clear MW2
            obtain ⟨DB,cb2,e_⟩:=Kd.R_slice ho;subst e_;have XB:=ra ho;clear hb ho
            refine hK.out _ _ ⟨HN1.out _ MW.out,HN2.out _ MW.out,(blk_cell HV.out.b7 0).trans rfl,(blk_cell HV.out.b7 1).trans rfl,(blk_cell HV.out.b7 2).trans rfl⟩ (fun hHeld=>?_);clear hK K;refine nm 124 ?_;refine oe 19 130 (bl 29 67108863) (fun K hK=>?_);refine gs Tryz.func18 #[.slice DB B.length cb2, .string tu.f0] ?_
            with_reducible refine (laws_wTold.calls _ _ _ B _ t _ (Kd.R_reads' XB.out).2.2 (Kd.R_reads' XB.out).2.1 PT.out).mono ?_
            rintro e wk2 ⟨rfl,hd⟩
            refine ⟨_,rfl,?_⟩;have hb:=hd.below;have V2:=ra (HV.out.below hb);clear HV;have HV:=V2;clear V2
            have MW2:=ra (below_step MW.out hb);clear MW;have MW:=MW2;clear MW2
            clear hb hd XB;refine hK.out _ _ ⟨HN1.out _ MW.out,HN2.out _ MW.out,(blk_cell HV.out.b7 0).trans rfl,(blk_cell HV.out.b7 1).trans rfl,(blk_cell HV.out.b7 2).trans rfl⟩ (fun hHeld=>?_);clear hK K;refine nm 130 ?_;refine oe 26 137 (bl 29 134217727) (fun K hK=>?_);refine gs Tryz.func19 #[.agg #[.string ev.f1.f0, .slice AB ev.f1.f1.length cb], .agg #[.string tu.f0, .slice A2 tu.f1.length c2]] ?_
            with_reducible refine (laws_wEver.calls _ _ _ _ ev.f1.f1 _ _ _ tu.f1 t _ (Kd.C_below HCB.out HV.out.t.bl) HLB.out (Kd.C_below M3.out MW.out) M2.out PV.out).mono ?_
            rintro e wk3 ⟨rfl,hb⟩
            refine ⟨_,rfl,?_⟩;have V2:=ra (HV.out.below hb);clear HV;have HV:=V2;clear V2
            have MW2:=ra (below_step MW.out hb);clear MW;have MW:=MW2;clear MW2
            clear hb;refine hK.out _ _ ⟨HN1.out _ MW.out,HN2.out _ MW.out,(blk_cell HV.out.b7 0).trans rfl,(blk_cell HV.out.b7 1).trans rfl,(blk_cell HV.out.b7 2).trans rfl⟩ (fun hHeld=>?_);clear hK K;refine nm 137 ?_;refine pu 27 138 (bl 29 268435455) ?_;refine pu 28 139 (bl 29 536870911) ?_;refine done_ (done_of HT_.out (by kernel_rfl)) ?_;clear hHeld HT_ HW_
            go_wp2_with fail
            go_roundg (N.length - (j+1))
            case measure=>have:=HY.out;omega
            case rel=>exact ⟨j+1,by congr 1;unfold wrap64;have:=HN.out;omega,⟨by omega,Nat.le_refl _⟩,HV⟩
        · have hyz:¬ ((j:Int)<(N.length:Int)):=by omega
          go_wp2_with fail
          go_roundg (E.length - (i+1))
          case measure=>have:=HX.out;omega
          case rel=>exact ⟨i+1,_,_,N,J,rfl,by congr 1;unfold wrap64;have:=HEL.out;omega,⟨by omega,Nat.le_refl _⟩,HO',ra HV.out.t⟩
  · have hxz:¬ ((i:Int)<(E.length:Int)):=by omega
    obtain ⟨A4,c4,e_⟩:=Kd.S_slice HT.out.l;subst e_
    go_wp2_with fail
    go_ret
    exact ⟨re,below_step HW.out HT.out.bl⟩
end Go.Proofs.YtgklmafdbgnohaaGreat.PA
