/- spec.l5Put: it puts a box's slot into its place in the index. No condition. -/
import Derived.Test.YtgklmafdbgnohaaGreatXR14
import Derived.Test.YtgklmafdbgnohaaGreatXPAd4
import Derived.Test.YtgklmafdbgnohaaGreatXZCx5
import Derived.Test.YtgklmafdbgnohaaGreatXZCv8
import Derived.Deep.LoopGhost
import Derived.Deep.CutBlock
import Derived.Deep.CutRange
import Derived.Deep.QuietTactic
import Derived.BigQuiet
set_option linter.unusedVariables false
set_option linter.unusedSimpArgs false
section
namespace Go.Proofs.YtgklmafdbgnohaaGreat.Ip
open Go.RowKit Go.Proofs Go.Proofs.YtgklmafdbgnohaaGreatW.PrintWords Go.Proofs.YtgklmafdbgnohaaGreatW.PrintLast Go.Proofs.YtgklmafdbgnohaaGreatW.PrintMore Go.Proofs.YtgklmafdbgnohaaGreat.Z Go.Proofs.YtgklmafdbgnohaaGreat.PA Go.Proofs.YtgklmafdbgnohaaGreat.Ik Go.Proofs.YtgklmafdbgnohaaGreat.Ix Go.Proofs.YtgklmafdbgnohaaGreat.Il Go.Proofs.YtgklmafdbgnohaaGreat.Iw Go.Proofs.YtgklmafdbgnohaaGreat.Ir
theorem flat_get (D:List Tr):∀ (i c:Nat),c<3→(D.flatMap encC)[i * 3+c]? = (D[i]?).bind fun t=>(encC t)[c]? := by
  induction D with
  | nil=>intro i c hc;simp
  | cons t r ih =>
    intro i c hc
    cases i with
    | zero =>
      rw [List.flatMap_cons,Nat.zero_mul,Nat.zero_add,List.getElem?_append_left (by simpa [encC] using hc)];rfl
    | succ i =>
      rw [List.flatMap_cons,show (i+1) * 3+c=(encC t).length+(i * 3+c) by simp [encC];omega,List.getElem?_append_right (by omega),Nat.add_sub_cancel_left,ih i c hc];rfl
theorem flat_len (D:List Tr):(D.flatMap encC).length=D.length * 3:=(reps_of (R:=fun x c=>c=encC x) (k:=3) (fun _=>rfl) (fun _ _ _=>rfl)).1
theorem flat_set (D:List Tr):∀ (i:Nat) (t u:Tr),D[i]? = some t→u.1=t.1→(D.set i u).flatMap encC=(D.flatMap encC).set (i * 3+2) (tv u):=by
  induction D with
  | nil=>intro i t u h;simp at h
  | cons a r ih =>
    intro i t u h e
    cases i with
    | zero =>
      simp only [List.getElem?_cons_zero,Option.some.injEq] at h;subst h;simp only [List.set_cons_zero,List.flatMap_cons,encC,e];rfl
    | succ i =>
      rw [List.set_cons_succ,List.flatMap_cons,List.flatMap_cons,ih i t u (by simpa using h) e,show (i+1) * 3+2=(encC a).length+(i * 3+2) by simp [encC];omega,List.set_append_right _ _ (by omega),Nat.add_sub_cancel_left]
structure CX (base:Nat) (v:Value) (D:List Tr) (W:World):Prop where
  o:W.ownsRow base 84 3 v D.length (D.flatMap encC)
  r:∀ (j:Nat) t,D[j]? = some t→Kd.R k80 80 W base (fun _=>True) (tv t) t.2.2
  d:∀ (i j:Nat) p q,D[i]? = some p→D[j]? = some q→i≠j→(tv p).ownBlock=none∨(tv p).ownBlock≠(tv q).ownBlock
section
variable {base:Nat} {v:Value} {D:List Tr} {W W':World}
theorem CX.nil (base:Nat) (W:World):CX base (.slice none 0 0) [] W:=⟨⟨rfl, .inl ⟨rfl,rfl⟩⟩,fun j t h=>by simp at h,fun i j p q h=>by simp at h⟩
theorem CX.S (h:CX base v D W):Kd.S k84 84 W base (fun _=>True) v (D.map tc):=cells_S h.o h.r h.d
theorem CX.kept (h:CX base v D W) {b:Option Nat} (hg:W.grownBy W' b) (hb:∀ (k t:Nat) cs,b=some k→W.heap[k]? = some (.cells cs t (0,0))→t≠84∧t≠80):CX base v D W':=by
  refine ⟨?_,fun j t ht=>?_,h.d⟩
  · refine h.o.kept hg ?_
    cases e:v.ownBlock with
    | none=>exact .inl rfl
    | some k =>
      right
      intro e2;obtain ⟨cs,hc⟩:=own_typed h.o k e;exact (hb k _ cs e2.symm hc).1 rfl
  · refine Kd.R_mono (Kd.R_grown (Kd.R_tight rfl (h.r j t ht)) hg fun k hk e=>?_) fun _ _=>trivial;obtain ⟨cs,hc⟩:=Kd.R_typed (h.r j t ht) k hk.symm;exact (hb k _ cs e.symm hc).2 rfl
theorem CX.below (h:CX base v D W) (hb:Below W.heap.size W W'):CX base v D W' :=
  ⟨pw_own_below h.o hb,fun j t ht=>Kd.R_below (h.r j t ht) hb,h.d⟩
theorem CX.slice (h:CX base v D W):∃ A c,v = .slice A D.length c:=by
  obtain ⟨_,h3⟩:=h.o
  rcases h3 with ⟨rfl,h0⟩ | ⟨g,cap,cur,rfl,_⟩
  · exact ⟨none,0,by rw [h0]⟩
  · exact ⟨_,_,rfl⟩
theorem CX.at (h:CX base v D W) {i:Nat} (hi:i<D.length):∃ g c,v = .slice (some ⟨g,0,none⟩) D.length c∧base≤g∧g<W.heap.size∧(∃ cs,W.heap[g]? = some (.cells cs 84 (0,0)))∧W.cell? ⟨g,i * 3,none⟩=some (.int .i64 D[i].1.1)∧W.cell? ⟨g,i * 3+1,none⟩=some (.int .i64 D[i].1.2)∧W.cell? ⟨g,i * 3+2,none⟩=some (tv D[i])∧W.frozen? ⟨g,i * 3+2,none⟩=false:=by
  obtain ⟨hl,h3⟩:=h.o
  rcases h3 with ⟨_,h0⟩ | ⟨g,cap,cur,rfl,hb,hh,hn,hcap,hcs,ht⟩
  · omega
  have hc:∀ c,c<3→W.cell? ⟨g,i * 3+c,none⟩=(encC D[i])[c]? := fun c hc=>by
    rw [blk_cell hh,← Array.getElem?_toList];have h1:=flat_get D i c hc;rw [← ht,List.getElem?_take_of_lt (by omega),List.getElem?_eq_getElem hi] at h1;exact h1
  exact ⟨g,cap,rfl,hb,blk_lt hh,⟨cur,hh⟩,hc 0 (by decide),hc 1 (by decide),hc 2 (by decide),blk_frozen hh _⟩
theorem CX.put (h:CX base v D W) {i:Nat} (hi:i<D.length) {g c:Nat} (hv:v = .slice (some ⟨g,0,none⟩) D.length c) {A:Option Addr} {n cp:Nat} {xs:List Sl} (hR:Kd.R k80 80 W base (fun _=>True) (.slice A n cp) xs) (hd:∀ (j:Nat) p,D[j]? = some p→(tv p).ownBlock=none∨(tv p).ownBlock≠(Value.slice A n cp).ownBlock) :
    CX base v (D.set i (D[i].1,(A,n,cp),xs)) (W.setCell ⟨g,i * 3+2,none⟩ (.slice A n cp))∧W.grownBy (W.setCell ⟨g,i * 3+2,none⟩ (.slice A n cp)) (some g):=by
  have hgr:W.grownBy (W.setCell ⟨g,i * 3+2,none⟩ (.slice A n cp)) (some g):=⟨rfl,rfl,rfl,by simp,fun k hk hn=>Below.heap_setCell W ⟨g,i * 3+2,none⟩ _ k (fun e=>hn (by rw [e]))⟩;obtain ⟨hl,h3⟩:=h.o
  rcases h3 with ⟨_,h0⟩ | ⟨g',cap,cur,hv',hb,hh,hn,hcap,hcs,ht⟩
  · omega
  obtain ⟨rfl,rfl⟩:g'=g∧cap=c:=by rw [hv] at hv';injection hv' with h1 h2 h3;injection h1 with h1;injection h1 with h1;exact ⟨h1.symm,h3.symm⟩
  have hty:∀ (k:Nat) (u:Value) (ys:List Sl),Kd.R k80 80 W base (fun _=>True) u ys→u.ownBlock=some k→some k≠some g':=fun k u ys hu hk e=>by
    obtain ⟨cs,hc⟩:=Kd.R_typed hu k hk;rw [Option.some.inj e,hh] at hc
    injection hc with hc
    injection hc with _ hc
    exact absurd hc (by decide)
  refine ⟨⟨?_,fun j t htj=>?_,fun a b p q hp hq hne=>?_⟩,hgr⟩
  · rw [flat_set D i D[i] (D[i].1,(A,n,cp),xs) (List.getElem?_eq_getElem hi) rfl,List.length_set];refine ⟨by rw [List.length_set];exact hl, .inr ⟨g',cap,cur.setIfInBounds (i * 3+2) (.slice A n cp),hv',hb,blk_set hh _ _,hn,hcap,by simpa using hcs,?_⟩⟩;rw [Array.toList_setIfInBounds,List.take_set,ht]
  · rw [List.getElem?_set] at htj;by_cases e:i=j
    · rw [if_pos e] at htj;subst e;simp only [hi,if_true,Option.some.injEq] at htj;subst htj;exact Kd.R_mono (Kd.R_grown (Kd.R_tight rfl hR) hgr fun k hk=>hty k _ _ hR hk.symm) fun _ _=>trivial
    · rw [if_neg e] at htj;exact Kd.R_mono (Kd.R_grown (Kd.R_tight rfl (h.r j t htj)) hgr fun k hk=>hty k _ _ (h.r j t htj) hk.symm) fun _ _=>trivial
  · rw [List.getElem?_set] at hp hq;by_cases e:i=a
    · subst e;simp only [if_true,hi,Option.some.injEq] at hp;subst hp;rw [if_neg hne] at hq
      rcases hd b q hq with h1 | h1
      · by_cases e:(Value.slice A n cp).ownBlock=none
        · exact .inl e
        · exact .inr (fun e'=>e (e'.trans h1))
      · exact .inr (Ne.symm h1)
    · rw [if_neg e] at hp;by_cases e2:i=b
      · subst e2;simp only [if_true,hi,Option.some.injEq] at hq;subst hq;exact hd a p hp
      · rw [if_neg e2] at hq;exact h.d a b p q hp hq hne
end
def l5p.T6:Bool × List (List Nat × List Nat):=(true,[([],[]),([0],[0]),([],[]),([],[]),([3],[3]),([],[]),([4,5],[4,5]),([6],[6]),([7],[7]),([],[]),([8,9],[8,9]),([1,2,0,1,2,3,4,5,6,7,8,9,10],[1,2]),([11,0,1,2,3,4,5,6,7,8,9,10],[11]),([12,10,10,0,1,2,3,4,5,6,7,8,9,10],[10,12])])
def l5p.B6:List Nat:=[0,1,0,0,8,0,56,120,248,0,1016,2047,4095,8191]
theorem l5p.tab6:rtab .any (opsOf Tryz.f84 6)=l5p.T6:=by kernel_rfl
theorem l5p.bits6:waitsOk l5p.T6.2 l5p.B6=true:=by kernel_rfl
def l5p.T9:Bool × List (List Nat × List Nat):=(true,[([],[]),([],[]),([1],[1]),([],[]),([2,3],[2,3]),([0,4],[0,4]),([],[]),([6],[6]),([5,7,5],[5,7]),([],[]),([9],[9]),([],[]),([10,11],[10,11]),([8,12,8],[8,12]),([13],[13]),([14,13,0,1,2,3,4,5,6,7,8,9,10,11,12,13,14],[14])])
def l5p.B9:List Nat:=[0,0,2,0,14,31,0,64,255,0,512,0,3584,8191,16383,32767]
theorem l5p.tab9:rtab .any (opsOf Tryz.f84 9)=l5p.T9:=by kernel_rfl
theorem l5p.bits9:waitsOk l5p.T9.2 l5p.B9=true:=by kernel_rfl
theorem CX.drewN {base:Nat} {v:Value} {D:List Tr} {W:World} (h:CX base v D W) (m:Nat):CX base v D (W.drewN m):=h.below (pw_below_drewN (Below.refl _ _) m)
structure PX (w:World) (base:Nat) (v:Value) (D:List Tr) (g4 g5 g8 g9:Nat) (b0 b1 b2 b3 b4 b5:Int) (s:Sl) (W:World):Prop where
  x:CX base v D W
  h4:W.heap[g4]? = some (.cells #[v] 28 (0,0))
  h5:W.heap[g5]? = some (.cells #[.int .i64 b0, .int .i64 b1, .int .i64 b2, .int .i64 b3, .int .i64 b4, .int .i64 b5] 75 (0,0))
  h8:W.heap[g8]? = some (.cells #[.slice none 0 0] 28 (0,0))
  h9:W.heap[g9]? = some (.cells #[.int .i64 s.f0, .int .i64 s.f1, .int .i64 s.f2, .int .i64 s.f3, .string s.f4, .int .i64 s.f5] 80 (0,0))
  bl:Below w.heap.size w W
  l4:w.heap.size≤g4
  l8:w.heap.size≤g8
  l9:w.heap.size≤g9
  n:g4≠g8
theorem PX.drewN {w W:World} {base:Nat} {v:Value} {D:List Tr} {g4 g5 g8 g9:Nat} {b0 b1 b2 b3 b4 b5:Int} {s:Sl} (h:PX w base v D g4 g5 g8 g9 b0 b1 b2 b3 b4 b5 s W) (m:Nat):PX w base v D g4 g5 g8 g9 b0 b1 b2 b3 b4 b5 s (W.drewN m) :=
  ⟨h.x.drewN m,blk_drewN h.h4 m,blk_drewN h.h5 m,blk_drewN h.h8 m,blk_drewN h.h9 m,pw_below_drewN h.bl m,h.l4,h.l8,h.l9,h.n⟩
theorem PX.below {w W W':World} {base:Nat} {v:Value} {D:List Tr} {g4 g5 g8 g9:Nat} {b0 b1 b2 b3 b4 b5:Int} {s:Sl} (h:PX w base v D g4 g5 g8 g9 b0 b1 b2 b3 b4 b5 s W) (hb:Below W.heap.size W W'):PX w base v D g4 g5 g8 g9 b0 b1 b2 b3 b4 b5 s W' :=
  ⟨h.x.below hb,blk_below h.h4 hb,blk_below h.h5 hb,blk_below h.h8 hb,blk_below h.h9 hb,below_step h.bl hb,h.l4,h.l8,h.l9,h.n⟩
theorem gb_below {w W:World} (h:Below w.heap.size w W) (b:Option Nat):w.grownBy W b:=⟨h.os,h.tape,h.output,h.size,fun k hk _=>h.block k hk⟩
theorem gb_set {w W:World} {b:Option Nat} (h:w.grownBy W b) {g:Nat} (hg:w.heap.size≤g∨b=some g) (o:Nat) (u:Value):w.grownBy (W.setCell ⟨g,o,none⟩ u) b:=by
  refine ⟨h.os,h.tape,h.output,by simpa using h.size,fun k hk hn=>?_⟩;rw [Below.heap_setCell W ⟨g,o,none⟩ u k (fun e=>?_)]
  · exact h.block k hk hn
  · rcases hg with hg | hg
    · have e':k=g:=e;omega
    · exact hn (by rw [hg,show k=g from e])
theorem CX.own {base:Nat} {v:Value} {D:List Tr} {W:World} (h:CX base v D W) {g t:Nat} {cs:Array Value} (hb:W.heap[g]? = some (.cells cs t (0,0))) (ht:t≠84∧t≠80) (o:Nat) (u:Value):CX base v D (W.setCell ⟨g,o,none⟩ u) :=
  h.kept (gb_set (gb_below (Below.refl W.heap.size W) (some g)) (.inr rfl) o u) fun k t' cs' e hc=>by
    cases e
    rw [hb] at hc
    injection hc with hc
    injection hc with _ hc
    rwa [← hc]
end Go.Proofs.YtgklmafdbgnohaaGreat.Ip
end
