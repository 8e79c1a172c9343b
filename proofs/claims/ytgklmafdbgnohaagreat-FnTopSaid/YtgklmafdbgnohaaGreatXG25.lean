/- Contracts of the program's and the reference's functions (they began as prints of the kit's tool; shortened and joined). No condition beside what the Lean functions say. -/
import Derived.Test.YtgklmafdbgnohaaGreatXR24
import Derived.Test.YtgklmafdbgnohaaGreatXG13
set_option linter.unusedVariables false
set_option linter.unusedSimpArgs false
namespace Go.Proofs.YtgklmafdbgnohaaGreat.Ij
open Go.RowKit Go.Proofs.YtgklmafdbgnohaaGreatW.PrintWords Go.Proofs.YtgklmafdbgnohaaGreatW.PrintLast Go.Proofs.YtgklmafdbgnohaaGreatW.PrintMore Go.Proofs.YtgklmafdbgnohaaGreat.Z Go.Proofs.YtgklmafdbgnohaaGreat.PA Go.Proofs.YtgklmafdbgnohaaGreat.Ik Go.Proofs.YtgklmafdbgnohaaGreat.Ix Go.Proofs.YtgklmafdbgnohaaGreat.Il Go.Proofs.YtgklmafdbgnohaaGreat.Iw Go.Proofs.YtgklmafdbgnohaaGreat.Ir Go.Proofs.YtgklmafdbgnohaaGreat.Ip
def s5p.T:Bool × List (List Nat × List Nat):=(true,[([],[]),([],[]),([],[]),([1,2],[1,2]),([3],[3]),([4],[4]),([],[]),([5,6],[5,6]),([7],[7]),([],[]),([],[]),([9,10],[9,10]),([11],[11]),([12],[12]),([],[]),([0,8,13,14],[0,8,13,14]),([15,15,0,1,2,3,4,5,6,7,8,9,10,11,12,13,14,15],[15])])
def s5p.B:List Nat:=[0,0,0,6,14,30,0,126,254,0,0,1536,3584,7680,0,32767,65535]
theorem s5p.tab:rtab .any (opsOf Tryz.f59 10)=s5p.T:=by kernel_rfl
theorem s5p.bits:waitsOk s5p.T.2 s5p.B=true:=by kernel_rfl
theorem insC_len (c:Int × Int) (s:Sl):∀ I:List Ce,(insC c s I).length≤I.length+1
  | []=>by simp [insC]
  | x :: r=>by
    have:=insC_len c s r;rw [insC]
    split
    · simp;omega
    · split
      · simp
      · simp
theorem insS_len (s:Sl):∀ l:List Sl,(insS s l).length=l.length+1
  | []=>rfl
  | x :: r=>by
    have:=insS_len s r;rw [insS]
    split
    · simp;omega
    · simp
theorem insC_slots (c:Int × Int) (s:Sl) (n:Nat):∀ I:List Ce,(∀ x∈I,x.f2.length≤n)→∀ x∈insC c s I,x.f2.length≤n+1
  | [],_,x,hx=>by simp [insC] at hx;subst hx;simp
  | y :: r,h,x,hx=>by
    have h1:=h y (by simp);have h2:=insC_slots c s n r (fun z hz=>h z (by simp [hz]));rw [insC] at hx
    split at hx
    · rcases List.mem_cons.1 hx with rfl | hx
      · omega
      · exact h2 x hx
    · split at hx
      · rcases List.mem_cons.1 hx with rfl | hx
        · have:=insS_len s y.f2;simp;omega
        · have:=h x (by simp [hx]);omega
      · rcases List.mem_cons.1 hx with rfl | hx
        · simp
        · have:=h x hx;omega
theorem putI_small (E:List Ev):∀ (I:List Ce) (n:Nat),I.length≤n→(∀ x∈I,x.f2.length≤n)→(E.foldl putI I).length≤n+E.length∧∀ x∈E.foldl putI I,x.f2.length≤n+E.length:=by
  induction E with
  | nil=>intro I n h1 h2;exact ⟨h1,h2⟩
  | cons e r ih =>
    intro I n h1 h2;have h3:=ih (putI I e) (n+1) (Nat.le_trans (insC_len _ _ _) (by omega)) (insC_slots _ _ n I h2);rw [List.foldl_cons,List.length_cons];exact ⟨by omega,fun x hx=>by have:=h3.2 x hx;omega⟩
theorem small_of (E:List Ev):(E.foldl putI []).length≤E.length∧∀ x∈E.foldl putI [],x.f2.length≤E.length:=by
  have:=putI_small E [] 0 (by simp) (by simp)
  simpa using this
structure SI (w:World) (g2 g3:Nat) (v:Value) (D:List Tr) (W:World):Prop where
  x:CX w.heap.size v D W
  h2:W.heap[g2]? = some (.cells #[.slice none 0 0] 28 (0,0))
  h3:W.heap[g3]? = some (.cells #[v] 28 (0,0))
  bl:Below w.heap.size w W
  l2:w.heap.size≤g2
  l3:w.heap.size≤g3
  n:g2≠g3
theorem SI.drewN {w W:World} {g2 g3:Nat} {v:Value} {D:List Tr} (h:SI w g2 g3 v D W) (m:Nat):SI w g2 g3 v D (W.drewN m) :=
  ⟨h.x.drewN m,blk_drewN h.h2 m,blk_drewN h.h3 m,pw_below_drewN h.bl m,h.l2,h.l3,h.n⟩
end Go.Proofs.YtgklmafdbgnohaaGreat.Ij
namespace Go.Proofs.YtgklmafdbgnohaaGreat.PA
open Go.RowKit Go.Proofs.YtgklmafdbgnohaaGreatW.PrintWords Go.Proofs.YtgklmafdbgnohaaGreatW.PrintLast Go.Proofs.YtgklmafdbgnohaaGreatW.PrintMore Go.Proofs.YtgklmafdbgnohaaGreat.Z Go.Proofs.YtgklmafdbgnohaaGreat.Ik Go.Proofs.YtgklmafdbgnohaaGreat.Ix Go.Proofs.YtgklmafdbgnohaaGreat.Il Go.Proofs.YtgklmafdbgnohaaGreat.Iw Go.Proofs.YtgklmafdbgnohaaGreat.Ir Go.Proofs.YtgklmafdbgnohaaGreat.Ip Go.Proofs.YtgklmafdbgnohaaGreat.Ij
end Go.Proofs.YtgklmafdbgnohaaGreat.PA
