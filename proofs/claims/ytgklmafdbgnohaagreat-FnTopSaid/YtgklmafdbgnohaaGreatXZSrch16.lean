/- sort.Search over the tubes' names: the first place whose name is not below the event's. No condition beside the order of the names (impl_search.f). -/
import Derived.Test.YtgklmafdbgnohaaGreatXPAd4
import Derived.Test.YtgklmafdbgnohaaGreatXZCx5
set_option linter.unusedVariables false
set_option linter.unusedSimpArgs false
namespace Go.Proofs.YtgklmafdbgnohaaGreat.PA
open Go.RowKit Go.Proofs.YtgklmafdbgnohaaGreatW.PrintWords Go.Proofs.YtgklmafdbgnohaaGreatW.PrintLast Go.Proofs.YtgklmafdbgnohaaGreatW.PrintMore Go.Proofs.YtgklmafdbgnohaaGreat.Z
def lessAt (l:List S32) (s:ByteArray) (i:Nat):Bool:=Op.bytesLess (rd_T32 l (i:Int)).f0.toList s.toList
theorem findIdx_at {l:List S32} {s:ByteArray} {h:Nat} (hh:h≤l.length) (h0:∀ t,t<h→lessAt l s t=true) (h1:h<l.length→lessAt l s h=false):(l.findIdx fun t => !(Op.bytesLess t.f0.toList s.toList))=h:=by
  have rd:∀ t (ht:t<l.length),rd_T32 l (t:Int)=l[t]:=fun t ht=>by unfold rd_T32;simp [ht]
  rcases Nat.lt_or_eq_of_le hh with hlt | rfl
  · rw [List.findIdx_eq hlt];refine ⟨?_,fun j hj=>?_⟩
    · have:=h1 hlt
      unfold lessAt at this
      rw [rd h hlt] at this;rw [this];rfl
    · have:=h0 j hj
      unfold lessAt at this
      rw [rd j (by omega)] at this;rw [this];rfl
  · rw [List.findIdx_eq_length];intro x hx;obtain ⟨j,hj,rfl⟩:=List.getElem_of_mem hx;have:=h0 j hj
    unfold lessAt at this
    rw [rd j hj] at this;rw [this];rfl
set_option maxHeartbeats 4000000 in
theorem impl_search_at {b2 b3 c i:Nat} {A:Option Addr} {l:List S32} {d:Bool} {s:ByteArray} {v:Value} {W:World} (h2:W.heap[b2]? = some (.cells #[.slice A l.length c] 25 (0,0))) (h3:W.heap[b3]? = some (.cells #[.bool d, .string s,v] 34 (0,0)))
    (hr:Kd.C k32 W A l.length l) (hi:i<l.length) :
    Calls Tryz.prog 42 (#[.int .i64 (i:Int)]++#[.pointer (some ⟨b2,0,none⟩), .pointer (some ⟨b3,0,none⟩)]) W fun e w'=>e = .returned (.bool (!lessAt l s i))∧∃ q,w'=W.drewN q:=by
  obtain ⟨ad,A1,c1,rfl,hx0,-,-,-⟩:=at_T32 hr (i:Int) (by omega) (by omega);have hz2:W.cell? ⟨b2,0,none⟩=some (.slice (some ad) l.length c):=(blk_cell h2 0).trans rfl;have hz3:W.cell? ⟨b3,1,none⟩=some (.string s):=(blk_cell h3 1).trans rfl;rw [Int.toNat_natCast] at hx0;have hu:=Tryz.underlying32;have hu2:=Tryz.underlying34
  unfold lessAt
  generalize rd_T32 l (i:Int)=y at hx0 ⊢
  have hiz:(i:Int)<(l.length:Int):=by omega
  clear h2 h3 hr
  go_enter Tryz.func42,Tryz.ntmps42
  go_wp2;go_region
  all_goals go_wp2
  all_goals go_ret
  all_goals exact ⟨rfl,1,rfl⟩
set_option maxHeartbeats 4000000 in
set_option maxRecDepth 1000000 in
theorem impl_search.calls (n:Int) (A:Option Addr) (c:Nat) (l:List S32) {b2 b3:Nat} {d:Bool} (s:ByteArray) {v:Value} (r:Int) (w:World) (h2:w.heap[b2]? = some (.cells #[.slice A l.length c] 25 (0,0))) (h3:w.heap[b3]? = some (.cells #[.bool d, .string s,v] 34 (0,0)))
    (hr:Kd.C k32 w A l.length l) (hc:l.length≤c) (h:impl_search.f n l s=some r) :
    Calls Tryz.prog 41 #[.int .i64 n, .func (.func 42) #[] #[.pointer (some ⟨b2,0,none⟩), .pointer (some ⟨b3,0,none⟩)]] w fun e w'=>e = .returned (.int .i64 r)∧Below w.heap.size w w':=by
  unfold impl_search.f at h
  by_cases hp:n=(l.length:Int)∧l.length≤1000000∧Asc l s
  · rw [if_pos hp] at h;obtain rfl:=Option.some.inj h;obtain ⟨rfl,hle,hasc⟩:=hp;clear h
    have HF:Aside0 (∀ (q i:Nat),i<l.length→Calls Tryz.prog 42 (#[.int .i64 (i:Int)]++#[.pointer (some ⟨b2,0,none⟩), .pointer (some ⟨b3,0,none⟩)]) (w.drewN q) fun e w'=>e = .returned (.bool (!lessAt l s i))∧∃ q',w'=(w.drewN q).drewN q') :=
      ⟨fun q i hi=>impl_search_at (W:=w.drewN q) h2 h3 (Kd.C_drewN hr q) hi⟩
    have M:Aside0 (∀ a b:Nat,a≤b→b<l.length→lessAt l s a=false→lessAt l s b=false):=⟨fun a b hab hb=>hasc b hb a (by omega)⟩;clear h2 h3 hr hasc;obtain ⟨m,hm⟩:∃ m,m=l.findIdx fun t => !(Op.bytesLess t.f0.toList s.toList):=⟨_,rfl⟩;rw [← hm];have CN:=Aside0.mk hm;clear hm;obtain ⟨n,hn⟩:∃ n,n=l.length:=⟨_,rfl⟩;rw [← hn] at HF M ⊢;have hsz:n<4611686018427387904:=by omega
    have HN:=Aside0.mk hn;clear hn
    go_enter Tryz.func41,Tryz.ntmps41
    go_wp2
    go_loopg [5,6] n (fun kx s5 s6 wr=>∃ (lo hi q:Nat),s5 = .int .i64 lo∧s6 = .int .i64 hi∧lo≤hi∧hi≤n∧hi - lo≤kx∧wr=w.drewN q ∧
      Aside0 ((∀ t,t<lo→lessAt l s t=true)∧(∀ t,hi≤t→t<n→lessAt l s t=false)))
    case atStart=>exact ⟨0,n,0,rfl,rfl,Nat.zero_le _,Nat.le_refl _,by omega,rfl,⟨⟨fun t ht=>absurd ht (Nat.not_lt_zero _),fun t h1 h2=>by omega⟩⟩⟩
    case round =>
      obtain ⟨lo,hi,q,rfl,rfl,hlh,hin,hg,rfl,I⟩:=hrel;by_cases hlt:lo<hi
      · have hc:=HF.out q ((lo+hi) / 2) (by omega);rw [show (((lo+hi) / 2:Nat):Int)=((lo:Int)+(hi:Int)) / 2 by omega] at hc;cases hp:lessAt l s ((lo+hi) / 2)<;>rw [hp] at hc
        · have HP:=Aside0.mk hp;clear hp
          go_wp2_with (go_at_call 42;refine hc.mono ?_;rintro e w' ⟨rfl,nq,rfl⟩)
          go_roundg ((lo+hi) / 2 - lo)
          case measure=>omega
          case rel=>exact ⟨lo,(lo+hi) / 2,q+nq,rfl,by rw [show ((lo:Int)+(hi:Int)) / 2=(((lo+hi) / 2:Nat):Int) by omega],by omega,by omega,Nat.le_refl _,rfl,⟨⟨I.out.1,fun t ht htn=>M.out ((lo+hi) / 2) t ht htn HP.out⟩⟩⟩
        · have HP:=Aside0.mk hp;clear hp
          go_wp2_with (go_at_call 42;refine hc.mono ?_;rintro e w' ⟨rfl,nq,rfl⟩)
          go_roundg (hi - ((lo+hi) / 2+1))
          case measure=>omega
          case rel=>exact ⟨(lo+hi) / 2+1,hi,q+nq,by rw [show ((lo:Int)+(hi:Int)) / 2+1=(((lo+hi) / 2+1:Nat):Int) by omega],rfl,by omega,hin,Nat.le_refl _,rfl,⟨⟨fun t ht=>(by
            cases h:lessAt l s t with
            | true=>rfl
            | false=>have:=M.out t ((lo+hi) / 2) (by omega) (by omega) h;rw [HP.out] at this;cases this),I.out.2⟩⟩⟩
      · obtain rfl:hi=lo:=by omega
        have ec:m=hi:=by
          rw [CN.out];have:=HN.out;exact findIdx_at (by omega) I.out.1 (fun h=>I.out.2 hi (Nat.le_refl _) (by omega))
        subst ec;go_wp2;go_ret
        exact ⟨rfl,pw_below_drewN (Below.refl _ _) _⟩
  · rw [if_neg hp] at h;cases h
end Go.Proofs.YtgklmafdbgnohaaGreat.PA
