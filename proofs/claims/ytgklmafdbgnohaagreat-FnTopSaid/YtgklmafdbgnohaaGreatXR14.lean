/- What stands when the range loop of impl.ProbeIndexOf has ended: the cells' row, and the index that the last sort brings. No condition. -/
import Derived.Shelf.SlSortFuncK.SWK
import Derived.Sort.WalkA
import Derived.Deep.LoopGhost
import Derived.Sort.WalkB2
import Derived.Sort.WalkB3
import Derived.Deep.CutRange
import Derived.Sort.WalkC4
import Derived.Deep.CutBlock
import Derived.Sort.WalkA6
import Derived.Shelf.SlSortFuncK.BreakPatternsK
import Derived.Shelf.GgSortFunc.SmallK
import Derived.Sort.AssemblyPlain
import Derived.Deep.Cut
import Derived.Shelf.GgSortFunc.Tiny
import Derived.Ground.GgsProg
import Derived.Sort.OwnSorted
import Derived.Test.YtgklmafdbgnohaaGreatXPAs1
import Derived.MapKept
import Derived.Test.YtgklmafdbgnohaaGreatXR3
import Derived.Test.YtgklmafdbgnohaaGreatXZCx5
import Derived.Test.YtgklmafdbgnohaaGreatXZCy6
import Derived.Maps.RangeRun
import Derived.Test.YtgklmafdbgnohaaGreatXP2
set_option linter.unusedVariables false
set_option linter.unusedSimpArgs false
section
namespace Go.Proofs.YtgklmafdbgnohaaGreat.Sg
open Go.Shelf Go.RowKit Go.Lib Go.Sort Go.Proofs
def Kp (l:List Nat) (w w':World):Prop:=w.heap.size≤w'.heap.size∧∀ b,b<w.heap.size→b ∉ l→w'.heap[b]? = w.heap[b]?
variable {l l':List Nat} {w w' w'':World}
theorem Kp.refl:Kp l w w:=⟨Nat.le_refl _,fun _ _ _=>rfl⟩
theorem Kp.trans (h:Kp l w w') (h':Kp l w' w''):Kp l w w'':=⟨Nat.le_trans h.1 h'.1,fun b hb hl=>(h'.2 b (Nat.lt_of_lt_of_le hb h.1) hl).trans (h.2 b hb hl)⟩
theorem Kp.mono (h:Kp l w w') (hs:∀ x∈l,x∈l'):Kp l' w w':=⟨h.1,fun b hb hl=>h.2 b hb fun hx=>hl (hs b hx)⟩
theorem Kp.fresh (h:Kp l w w') (hs:∀ x∈l,x<w.heap.size→x∈l'):Kp l' w w':=⟨h.1,fun b hb hl=>h.2 b hb fun hx=>hl (hs b hx hb)⟩
theorem Kp.alloc (o:Obj):Kp l w (w.alloc o):=by
  refine ⟨by simp,fun b hb _=>?_⟩;rw [alloc_eq_grow];exact heap_grow_old _ _ hb
theorem Kp.drewN (q:Nat):Kp l w (w.drewN q):=⟨Nat.le_refl _,fun _ _ _=>rfl⟩
theorem Kp.setCell {b o:Nat} (v:Value) (hb:b∈l):Kp l w (w.setCell ⟨b,o,none⟩ v):=by
  refine ⟨by simp,fun x hx hl=>?_⟩;have:b≠x:=fun e=>hl (e▸hb);simp [setCell_eq,mapBlock,Array.getElem?_modify,this]
theorem Kp.cell {b o:Nat} (h:Kp l w w') (hb:b<w.heap.size) (hl:b ∉ l):w'.cell? ⟨b,o,none⟩=w.cell? ⟨b,o,none⟩:=by simp only [World.cell?,h.2 b hb hl]
theorem Kp.frozen {b o:Nat} (h:Kp l w w') (hb:b<w.heap.size) (hl:b ∉ l):w'.frozen? ⟨b,o,none⟩=w.frozen? ⟨b,o,none⟩:=by simp only [World.frozen?,h.2 b hb hl]
section
variable {P:Program} {ρ:Ren} {α:Type} [Inhabited α] {enc:α→List Value} {k:Nat} {lt:α→α→Bool} {g:Nat} {lb:Array Value} {sf:Nat} {sb:Array Value} {blk off n:Nat} {w0 W W0:World} {d dk dk':Array α} {B a b:Nat}
theorem Kp.sortWorldK (m:Nat) (os:Array Obj) (h:blk∈l):Kp l W (sortWorldK enc k W blk off m dk os):=by
  refine ⟨SWK.le ⟨m,os,rfl⟩,fun b hb hl=>?_⟩;have:blk≠b:=fun e=>hl (e▸h)
  unfold Go.Proofs.sortWorldK
  rw [heap_grow_old _ _ (by rw [size_putRowK];exact hb)];simp [putRowK,putRow,mapBlock,Sort.ahead,Array.getElem?_modify,this]
variable (P enc k lt g lb sf sb blk off n w0)
structure Cx:Prop where
  hk:∀ x,(enc x).length=k
  eg:∀ args w,(callFunc g args).run P w = .ok (.enter g args) w
  less:∀ dk W,dk.size=n→SWK enc k w0 blk off dk W→∀ i j:Nat,i<n→j<n→Calls P g (#[.int .i64 i, .int .i64 j]++lb) W fun e w'=>e = .returned (.bool (lt dk[i]! dk[j]!))∧SWK enc k w0 blk off dk w'∧Kp [] W w'
  swap:SwapSwapsK P sf sb enc k blk off n
  hH:∃ d0:Array α,d0.size=n∧HoldsK enc k w0 blk off d0
  hblk:blk<w0.heap.size
  hsz:n<4611686018427387904
abbrev data:Value := .agg #[.func (.func g) #[] lb, .func (.func sf) #[] sb]
abbrev box (t:TypeId):Obj := .cells #[.func (.func g) #[] lb, .func (.func sf) #[] sb] t
structure St (l:List Nat) (W0:World) (B:Nat) (dk:Array α) (W:World):Prop where
  s:SWK enc k w0 blk off dk W
  z:dk.size=n
  p:Kp l W0 W
  c0:W.cell? ⟨B,0,none⟩=some (.func (.func g) #[] lb)
  c1:W.cell? ⟨B,1,none⟩=some (.func (.func sf) #[] sb)
  lt:B<W.heap.size
  ne:B ∉ l
def En (dk:Array α) (W:World) (v:Value) (e:Ending) (w':World):Prop:=e = .returned v∧SWK enc k w0 blk off dk w'∧Kp [blk] W w'
end
section
variable {P:Program} {ρ:Ren} {α:Type} [Inhabited α] {enc:α→List Value} {k:Nat} {lt:α→α→Bool} {g:Nat} {lb:Array Value} {sf:Nat} {sb:Array Value} {blk off n:Nat} {w0 W W0:World} {d dk dk':Array α} {B a b:Nat}
theorem St.start (C:Cx P enc k lt g lb sf sb blk off n w0) (t:TypeId) (h:SWK enc k w0 blk off dk W) (hz:dk.size=n):St enc k g lb sf sb blk off n w0 [blk] W W.heap.size dk (W.alloc (box g lb sf sb t)) :=
  ⟨h.alloc _,hz,Kp.alloc _,by simp,by simp,by simp,by simpa using Nat.ne_of_gt (h.lt C.hblk)⟩
theorem St.startAt (t:TypeId) (h:SWK enc k w0 blk off dk W) (hz:dk.size=n) (hl:∀ x∈l,x<W.heap.size):St enc k g lb sf sb blk off n w0 l W W.heap.size dk (W.alloc (box g lb sf sb t)) :=
  ⟨h.alloc _,hz,Kp.alloc _,by simp,by simp,by simp,fun h=>Nat.lt_irrefl _ (hl _ h)⟩
theorem St.step (H:St enc k g lb sf sb blk off n w0 l W0 B dk W) (h:SWK enc k w0 blk off dk' w') (hz:dk'.size=n) (hp:Kp l W w'):St enc k g lb sf sb blk off n w0 l W0 B dk' w' :=
  ⟨h,hz,H.p.trans hp,(hp.cell H.lt H.ne).trans H.c0,(hp.cell H.lt H.ne).trans H.c1,Nat.lt_of_lt_of_le H.lt hp.1,H.ne⟩
theorem St.drewN (H:St enc k g lb sf sb blk off n w0 l W0 B dk W) (q:Nat):St enc k g lb sf sb blk off n w0 l W0 B dk (W.drewN q):=H.step (H.s.drewN q) H.z (Kp.drewN q)
theorem St.less (C:Cx P enc k lt g lb sf sb blk off n w0) (H:St enc k g lb sf sb blk off n w0 l W0 B dk W) {x y:Int} (i j:Nat) (hx:x=i) (hy:y=j) (hi:i<n) (hj:j<n) :
    Calls P g (#[.int .i64 x, .int .i64 y]++lb) W fun e w'=>e = .returned (.bool (lt dk[i]! dk[j]!))∧St enc k g lb sf sb blk off n w0 l W0 B dk w':=by
  subst hx hy;exact (C.less dk W H.z H.s i j hi hj).mono fun e w' h=>⟨h.1,H.step h.2.1 H.z (h.2.2.mono (by simp))⟩
theorem St.holds (C:Cx P enc k lt g lb sf sb blk off n w0) (H:St enc k g lb sf sb blk off n w0 l W0 B dk W):HoldsK enc k W blk off dk:=by
  obtain ⟨d0,h0,h1⟩:=C.hH;exact H.s.holds C.hblk h1 (H.z.trans h0.symm)
theorem St.swap (C:Cx P enc k lt g lb sf sb blk off n w0) (H:St enc k g lb sf sb blk off n w0 l W0 B dk W) {x y:Int} (i j:Nat) (hx:x=i) (hy:y=j) (hi:i<n) (hj:j<n) (hl:blk∈l:=by simp) :
    ∃ w2,(callFunc sf (#[.int .i64 x, .int .i64 y]++sb)).run P W = .ok (.value (.tuple #[])) w2∧St enc k g lb sf sb blk off n w0 l W0 B (swp dk i j) w2:=by
  subst hx hy;have e:=C.swap W dk (H.holds C) H.z i j hi hj;have s:=H.s.swap C.hk C.hblk i j (H.z▸hi) (H.z▸hj);refine ⟨_,e,H.step s (by rw [size_swp];exact H.z) ⟨by simp,fun b hb hb'=>?_⟩⟩;have hne:b≠blk:=fun e=>hb' (e▸hl);obtain ⟨m,os,hw⟩:=s
  have e1:∀ (vs:List Value) (o:Nat) (w:World),(w.setCells blk o vs).heap[b]? = w.heap[b]? := by
    intro vs
    induction vs with
    | nil=>intro _ _;rfl
    | cons v r ih=>intro o w;rw [World.setCells,ih];simp [setCell_eq,mapBlock,Array.getElem?_modify,Ne.symm hne]
  rw [e1,e1]
theorem St.call (H:St enc k g lb sf sb blk off n w0 l W0 B dk W) {f:Nat} {args:Array Value} {v:Value} (hz:dk'.size=n) (h:Calls P f args W (En enc k blk off w0 dk' W v)) (hl:blk∈l:=by simp) :
    Calls P f args W fun e w'=>e = .returned v∧St enc k g lb sf sb blk off n w0 l W0 B dk' w' :=
  h.mono fun e w' h=>⟨h.1,H.step h.2.1 hz (h.2.2.mono (by simpa using hl))⟩
theorem St.done (H:St enc k g lb sf sb blk off n w0 [blk] W0 B dk W) (v:Value) (e:dk=dk'):En enc k blk off w0 dk' W0 v (.returned v) W:=⟨rfl,e▸H.s,H.p⟩
theorem St.doneAs (H:St enc k g lb sf sb blk off n w0 [blk] W0 B dk W) {v v':Value} (e:dk=dk') (hv:v=v'):En enc k blk off w0 dk' W0 v' (.returned v) W:=⟨by rw [hv],e▸H.s,H.p⟩
end
variable {P:Program} {ρ:Ren} {α:Type} [Inhabited α] {enc:α→List Value} {k:Nat} {lt:α→α→Bool} {g:Nat} {lb:Array Value} {sf:Nat} {sb:Array Value} {blk off n:Nat} {w0 W:World} {d:Array α}
set_option maxHeartbeats 4000000 in
set_option maxRecDepth 100000 in
theorem insertion (L:LaysGg.n26 P ρ) (C:Cx P enc k lt g lb sf sb blk off n w0) (a b:Nat) (hS:SWK enc k w0 blk off d W) (hz:d.size=n) (hab:a≤b) (hb:b≤n) :
    Calls P (ρ.f 26) #[data g lb sf sb, .int .i64 a, .int .i64 b] W (En enc k blk off w0 (Sort.insertionSort lt d a b) W (.tuple #[])):=by
  have mixed:=L.mixed;have t0:=L.t0;have a0:=L.a0;have z0:=L.z0;have v0:=L.v0;have t3:=L.t3;have a3:=L.a3;have z3:=L.z3;have v3:=L.v3;have t4:=L.t4;have a4:=L.a4;have z4:=L.z4;have v4:=L.v4;have t26:=L.t26;have a26:=L.a26;have z75:=L.z26;have v26:=L.v26;have t37:=L.t37;have a37:=L.a37;have z37:=L.z37;have v37:=L.v37;have t44:=L.t44;have a44:=L.a44;have z44:=L.z44;have v44:=L.v44
  have u44:=run_underlying L.t44;have eg:=C.eg;have hsz:=C.hsz;have H0:=St.start C (ρ.t 44) hS hz
  go_enter L.f26,BodyGg.n26_ntmps ρ
  go_wp2
  go_loopg [6] (b - a) (fun kx s6 wr=>∃ (i:Nat) (dk:Array α),s6 = .int .i64 i∧a<i∧i≤b+1∧b+1 - i≤kx∧St enc k g lb sf sb blk off n w0 [blk] W W.heap.size dk wr∧Hid (insOuter lt a b i dk=insOuter lt a b (a+1) d))
  case atStart=>exact ⟨a+1,d,by go_num,by omega,by omega,by omega,H0,rfl⟩
  case round =>
    clear H0;obtain ⟨i,dk,rfl,hai,hib,hk,H,HO⟩:=hrel;by_cases hlt:i<b
    · have hltz:(i:Int)<(b:Int):=by omega
      go_wp2
      go_loopg [7] (i - a) (fun kx s7 wr=>∃ (j:Nat) (dj:Array α),s7 = .int .i64 j∧a≤j∧j≤i∧j - a≤kx∧St enc k g lb sf sb blk off n w0 [blk] W W.heap.size dj wr∧Hid (insInner lt a j dj=insInner lt a i dk))
      case atStart=>exact ⟨i,dk,rfl,by omega,Nat.le_refl _,Nat.le_refl _,H,rfl⟩
      case round =>
        clear H;obtain ⟨j,dj,rfl,haj,hji,hk2,H,HI⟩:=hrel;have c0:=H.c0
        have ho:∀ w',St enc k g lb sf sb blk off n w0 [blk] W W.heap.size dj w'→(j≤a∨lt dj[j]! dj[j - 1]! = false)→∃ (i':Nat) (dk:Array α),Value.int .i64 ((i:Int)+1) = .int .i64 i'∧a<i'∧i'≤b+1∧b+1 - i'≤b+1 - (i+1)∧St enc k g lb sf sb blk off n w0 [blk] W W.heap.size dk w'∧Hid (insOuter lt a b i' dk=insOuter lt a b (a+1) d):=fun w' H' hs =>
          ⟨i+1,dj,by go_num,by omega,by omega,by omega,H',show Hid _ from by rw [← HO.out,insOuter_go _ _ _ _ _ hlt,← HI.out,insInner_stop _ _ _ _ hs];exact rfl⟩
        have HO':Hid _:=ho;clear ho;by_cases hja:a<j
        · have hjz:(j:Int) > (a:Int):=by omega
          have hl:=H.less C (x:=j) (y:=(j:Int) - 1) j (j - 1) rfl (by omega) (by omega) (by omega)
          cases hlv:lt dj[j]! dj[j - 1]! with
          | true =>
            rw [hlv] at hl
            go_wp2_with (go_at_fn g;refine hl.mono ?_;rintro e w' ⟨rfl,H'⟩;have c0':=H'.c0;have c1':=H'.c1;obtain ⟨w2,hs,H2⟩:=H'.swap C (x:=j) (y:=(j:Int) - 1) j (j - 1) rfl (by omega) (by omega) (by omega))
            go_roundg (j - 1 - a)
            case measure=>omega
            case rel=>exact ⟨j - 1,swp dj j (j - 1),by go_num,by omega,by omega,by omega,H2,show Hid _ from by rw [← HI.out,insInner_go lt a j dj hja hlv];exact rfl⟩
          | false =>
            rw [hlv] at hl
            go_wp2_with (go_at_fn g;refine hl.mono ?_;rintro e w' ⟨rfl,H'⟩)
            go_roundg (b+1 - (i+1))
            case measure=>omega
            case rel=>exact HO'.out _ H' (.inr hlv)
        · have hjz:¬ ((j:Int) > (a:Int)):=by omega
          go_wp2
          go_roundg (b+1 - (i+1))
          case measure=>omega
          case rel=>exact HO'.out _ H (.inl (by omega))
    · have hltz:¬ ((i:Int)<(b:Int)):=by omega
      go_wp2;go_end0
      exact H.done _ (by unfold Sort.insertionSort;rw [← HO.out,insOuter_stop _ _ _ _ _ hlt])
variable {P:Program} {ρ:Ren} {α:Type} [Inhabited α] {enc:α→List Value} {k:Nat} {lt:α→α→Bool} {g:Nat} {lb:Array Value} {sf:Nat} {sb:Array Value} {blk off n:Nat} {w0 W:World} {d:Array α}
def Child (lt:α→α→Bool) (hi F root:Nat) (d:Array α) (c:Nat):Prop :=
  (c=2 * root+2∧2 * root+2<hi∧lt d[F+(2 * root+1)]! d[F+(2 * root+2)]! = true)∨(c=2 * root+1∧2 * root+1<hi∧(2 * root+2<hi→lt d[F+(2 * root+1)]! d[F+(2 * root+2)]! = false))
theorem Child.stop {hi F root c:Nat} (h:Child lt hi F root d c) (e:lt d[F+root]! d[F+c]! = false):siftDown lt hi F root d=d:=by
  rcases h with ⟨rfl,h1,h2⟩ | ⟨rfl,h1,h2⟩
  · exact sd_right_stop lt d h1 h2 e
  · exact sd_left_stop lt d h1 h2 e
theorem Child.go {hi F root c:Nat} (h:Child lt hi F root d c) (e:lt d[F+root]! d[F+c]! = true):siftDown lt hi F root d=siftDown lt hi F c (swp d (F+root) (F+c)):=by
  rcases h with ⟨rfl,h1,h2⟩ | ⟨rfl,h1,h2⟩
  · exact sd_right_go lt d h1 h2 e
  · exact sd_left_go lt d h1 h2 e
set_option maxHeartbeats 4000000 in
set_option maxRecDepth 100000 in
theorem sift (L:LaysGg.n34 P ρ) (C:Cx P enc k lt g lb sf sb blk off n w0) (lo hi F:Nat) (hS:SWK enc k w0 blk off d W) (hz:d.size=n) (hlo:lo≤hi) (hb:F+hi≤n) :
    Calls P (ρ.f 34) #[data g lb sf sb, .int .i64 lo, .int .i64 hi, .int .i64 F] W (En enc k blk off w0 (siftDown lt hi F lo d) W (.tuple #[])):=by
  have mixed:=L.mixed;have t0:=L.t0;have a0:=L.a0;have z0:=L.z0;have v0:=L.v0;have t3:=L.t3;have a3:=L.a3;have z3:=L.z3;have v3:=L.v3;have t4:=L.t4;have a4:=L.a4;have z4:=L.z4;have v4:=L.v4;have t26:=L.t26;have a26:=L.a26;have z75:=L.z26;have v26:=L.v26;have t37:=L.t37;have a37:=L.a37;have z37:=L.z37;have v37:=L.v37;have t44:=L.t44;have a44:=L.a44;have z44:=L.z44;have v44:=L.v44
  have u44:=run_underlying L.t44;have eg:=C.eg;have hsz:=C.hsz;have H0:=St.start C (ρ.t 44) hS hz
  go_enter L.f34,BodyGg.n34_ntmps ρ
  go_wp2
  go_loopg [8] (hi - lo) (fun kx s8 wr=>∃ (root:Nat) (dk:Array α),s8 = .int .i64 root∧root≤hi∧hi - root≤kx∧St enc k g lb sf sb blk off n w0 [blk] W W.heap.size dk wr∧Hid (siftDown lt hi F root dk=siftDown lt hi F lo d))
  case atStart=>exact ⟨lo,d,rfl,hlo,Nat.le_refl _,H0,rfl⟩
  case round =>
    clear H0;obtain ⟨root,dk,rfl,hr,hkx,H,HE⟩:=hrel;by_cases h0:hi≤2 * root+1
    · have h0z:(hi:Int)≤2 * (root:Int)+1:=by omega
      go_wp2;go_end0
      exact H.done _ (by rw [← HE.out,sd_end lt dk h0])
    · have h0z:¬ ((hi:Int)≤2 * (root:Int)+1):=by omega
      go_upto_region 4 with fail
      go_cut [32] from 17 to 31 (fun s32 wc=>∃ v:Bool,s32 = .bool v∧Aside (if v=true then Child lt hi F root dk (2 * root+2) else Child lt hi F root dk (2 * root+1))∧St enc k g lb sf sb blk off n w0 [blk] W W.heap.size dk wc)
      case first =>
        have c0:=H.c0;by_cases h1:2 * root+2<hi
        · have h1z:2 * (root:Int)+1+1<(hi:Int):=by omega
          have hl:=H.less C (x:=(F:Int)+(2 * (root:Int)+1)) (y:=(F:Int)+(2 * (root:Int)+1)+1) (F+(2 * root+1)) (F+(2 * root+2)) (by omega) (by omega) (by omega) (by omega)
          cases hlv:lt dk[F+(2 * root+1)]! dk[F+(2 * root+2)]! with
          | true =>
            rw [hlv] at hl
            go_wp2_with (go_at_fn g;refine hl.mono ?_;rintro e w' ⟨rfl,H'⟩)
            go_meet
            exact ⟨true,rfl, .inl ⟨rfl,h1,hlv⟩,H'⟩
          | false =>
            rw [hlv] at hl
            go_wp2_with (go_at_fn g;refine hl.mono ?_;rintro e w' ⟨rfl,H'⟩)
            go_meet
            exact ⟨false,rfl, .inr ⟨rfl,by omega,fun _=>hlv⟩,H'⟩
        · have h1z:¬ (2 * (root:Int)+1+1<(hi:Int)):=by omega
          go_wp2;go_meet
          exact ⟨false,rfl, .inr ⟨rfl,by omega,fun h=>absurd h h1⟩,H⟩
      clear H;obtain ⟨v,rfl,hv,H⟩:=hcut
      go_upto_if 32 with fail
      go_cut [9] from 33 to 34 (fun s9 wc=>∃ c:Nat,s9 = .int .i64 c∧Aside (Child lt hi F root dk c)∧St enc k g lb sf sb blk off n w0 [blk] W W.heap.size dk wc)
      case first =>
        have hr2:hi - root≤hi∧2 * root+1<hi:=by omega
        cases v with
        | true=>go_wp2;go_meet;exact ⟨2 * root+2,by go_num,hv,H⟩
        | false=>go_wp2;go_meet;exact ⟨2 * root+1,by go_num,hv,H⟩
      case rest =>
        clear H;obtain ⟨c,rfl,hc,H⟩:=hcut;have hcb:c<hi∧root<c:=by rcases hc.out with h | h<;>omega
        have c0:=H.c0;have hl:=H.less C (x:=(F:Int)+(root:Int)) (y:=(F:Int)+(c:Int)) (F+root) (F+c) (by omega) (by omega) (by omega) (by omega)
        cases hlv:lt dk[F+root]! dk[F+c]! with
        | true =>
          rw [hlv] at hl
          go_wp2_with (go_at_fn g;refine hl.mono ?_;rintro e w' ⟨rfl,H'⟩;have c1':=H'.c1;obtain ⟨w2,hs,H2⟩:=H'.swap C (x:=(F:Int)+(root:Int)) (y:=(F:Int)+(c:Int)) (F+root) (F+c) (by omega) (by omega) (by omega) (by omega))
          go_roundg (hi - c)
          case measure=>omega
          case rel=>exact ⟨c,_,rfl,by omega,Nat.le_refl _,H2,show Hid _ from by rw [← HE.out,Child.go hc hlv];exact rfl⟩
        | false =>
          rw [hlv] at hl
          go_wp2_with (go_at_fn g;refine hl.mono ?_;rintro e w' ⟨rfl,H'⟩)
          (try simp only [Exit.inBlock,Exit.then]);refine bodyPost_ret (results_none rfl _ _ _) rfl ?_
          exact H'.done _ (by rw [← HE.out,Child.stop hc hlv])
set_option maxHeartbeats 4000000 in
set_option maxRecDepth 100000 in
theorem heap (L:LaysGg.n27 P ρ) (C:Cx P enc k lt g lb sf sb blk off n w0) (a b:Nat) (hS:SWK enc k w0 blk off d W) (hz:d.size=n) (hab:a≤b) (hb:b≤n) :
    Calls P (ρ.f 27) #[data g lb sf sb, .int .i64 a, .int .i64 b] W (En enc k blk off w0 (heapSort lt d a b) W (.tuple #[])):=by
  have mixed:=L.mixed;have t0:=L.t0;have a0:=L.a0;have z0:=L.z0;have v0:=L.v0;have t3:=L.t3;have a3:=L.a3;have z3:=L.z3;have v3:=L.v3;have t4:=L.t4;have a4:=L.a4;have z4:=L.z4;have v4:=L.v4;have t26:=L.t26;have a26:=L.a26;have z75:=L.z26;have v26:=L.v26;have t37:=L.t37;have a37:=L.a37;have z37:=L.z37;have v37:=L.v37;have t44:=L.t44;have a44:=L.a44;have z44:=L.z44;have v44:=L.v44
  have u44:=run_underlying L.t44;have e34:∀ args w,(callFunc (ρ.f 34) args).run P w = .ok (.enter (ρ.f 34) args) w:=enters_of L.f34 (by kernel_rfl) rfl;have ecast:((b - a:Nat):Int)=(b:Int) - (a:Int):=by omega
  have hsz:=C.hsz;have H0:=St.start C (ρ.t 44) hS hz
  have hsift:∀ {w':World} {B:Nat} {dk:Array α} (lo hi:Nat) {x y:Int},St enc k g lb sf sb blk off n w0 [blk] W B dk w'→x=lo→y=hi→lo≤hi→a+hi≤n→Calls P (ρ.f 34) #[data g lb sf sb, .int .i64 x, .int .i64 y, .int .i64 a] w' fun e w''=>e = .returned (.tuple #[])∧St enc k g lb sf sb blk off n w0 [blk] W B (siftDown lt hi a lo dk) w'':=fun lo hi x y H hx hy h1 h2=>by
    subst hx hy;exact H.call ((size_siftDown lt _ _ _ _ _ (Nat.le_refl _)).trans H.z) (sift { L with } C lo hi a H.s H.z h1 h2)
  have HS:Aside _:=@hsift;clear hsift
  go_enter L.f27,BodyGg.n27_ntmps ρ
  go_wp2
  go_loopg [9] ((b - a - 1) / 2+1) (fun kx s9 wr=>s9 = .int .i64 ((kx:Int) - 1)∧kx≤(b - a - 1) / 2+1∧∃ (dk:Array α),St enc k g lb sf sb blk off n w0 [blk] W W.heap.size dk wr∧Hid (heapBuild lt (b - a) a kx dk=heapBuild lt (b - a) a ((b - a - 1) / 2+1) d))
  case atStart=>exact ⟨by rw [half_start hab],Nat.le_refl _,d,H0,rfl⟩
  case round =>
    clear H0;obtain ⟨rfl,hkk,dk,H,HE⟩:=hrel;have c0:=H.c0;have c1:=H.c1
    cases gk with
    | zero =>
      have hB:Hid (dk=heapBuild lt (b - a) a ((b - a - 1) / 2+1) d):=HE.out;clear HE hkk;go_wp2
      go_loopg [10] (b - a) (fun kx s10 wr=>s10 = .int .i64 ((kx:Int) - 1)∧kx≤b - a∧∃ (dj:Array α),St enc k g lb sf sb blk off n w0 [blk] W W.heap.size dj wr∧Hid (heapPop lt a kx dj=heapPop lt a (b - a) dk))
      case atStart=>exact ⟨by rw [ecast],Nat.le_refl _,dk,H,rfl⟩
      case round =>
        clear H c0 c1;obtain ⟨rfl,hkk,dj,H,HE⟩:=hrel
        cases gk with
        | zero =>
          go_wp2;go_end0
          exact H.done _ (by rw [heapSort,← hB.out,← HE.out];rfl)
        | succ kx =>
          have c1:=H.c1;obtain ⟨w2,hs,H2⟩:=H.swap C (x:=a) (y:=(a:Int)+(kx:Int)) a (a+kx) rfl (by omega) (by omega) (by omega);have c0:=H2.c0;have c1':=H2.c1;have hc:=HS.out (x:=0) (y:=kx) 0 kx H2 rfl rfl (Nat.zero_le _) (by omega)
          go_wp2_with (go_at_fn (ρ.f 34);refine hc.mono ?_;rintro e w1 ⟨rfl,H3⟩)
          go_roundg kx
          case measure=>omega
          case rel=>exact ⟨by simp,by omega,_,H3,HE⟩
    | succ kx =>
      have hc:=HS.out (x:=kx) (y:=(b:Int) - (a:Int)) kx (b - a) H rfl (by omega) (by omega) (by omega)
      go_wp2_with (go_at_fn (ρ.f 34);refine hc.mono ?_;rintro e w1 ⟨rfl,H3⟩)
      go_roundg kx
      case measure=>omega
      case rel=>exact ⟨by simp,by omega,_,H3,HE⟩
structure Ct (cb s:Nat) (W:World):Prop where
  c:W.cell? ⟨cb,0,none⟩=some (.int .i64 s)
  f:W.frozen? ⟨cb,0,none⟩=false
  b:cb<W.heap.size
theorem Ct.keep {cb s:Nat} {l:List Nat} {W w':World} (h:Ct cb s W) (hp:Kp l W w') (hl:cb ∉ l):Ct cb s w':=⟨(hp.cell h.b hl).trans h.c,(hp.frozen h.b hl).trans h.f,Nat.lt_of_lt_of_le h.b hp.1⟩
theorem Ct.set {cb s:Nat} {W:World} (h:Ct cb s W) (t:Nat):Ct cb t (W.setCell ⟨cb,0,none⟩ (.int .i64 t)):=⟨World.cell?_setCell_same _ _ _ h.c,by rw [World.frozen?_setCell];exact h.f,by simpa using h.b⟩
variable {P:Program} {ρ:Ren} {α:Type} [Inhabited α] {enc:α→List Value} {k:Nat} {lt:α→α→Bool} {g:Nat} {lb:Array Value} {sf:Nat} {sb:Array Value} {blk off n:Nat} {w0 W:World} {d:Array α} {cb s:Nat}
set_option maxHeartbeats 4000000 in
set_option maxRecDepth 100000 in
theorem order (L:LaysGg.n39 P ρ) (C:Cx P enc k lt g lb sf sb blk off n w0) (a b:Nat) (hS:SWK enc k w0 blk off d W) (hz:d.size=n) (ha:a<n) (hb:b<n) (hc:Ct cb s W) (hcb:w0.heap.size≤cb) (hs:s<4611686018427387904) :
    Calls P (ρ.f 39) #[data g lb sf sb, .int .i64 a, .int .i64 b, .pointer (some ⟨cb,0,none⟩)] W fun e w' =>
      ∃ x y s':Nat,e = .returned (.tuple #[.int .i64 x, .int .i64 y])∧((x=a∧y=b)∨(x=b∧y=a))∧s'≤s+1∧SWK enc k w0 blk off d w'∧Kp [blk,cb] W w'∧Ct cb s' w':=by
  have mixed:=L.mixed;have t0:=L.t0;have a0:=L.a0;have z0:=L.z0;have v0:=L.v0;have t3:=L.t3;have a3:=L.a3;have z3:=L.z3;have v3:=L.v3;have t4:=L.t4;have a4:=L.a4;have z4:=L.z4;have v4:=L.v4;have t26:=L.t26;have a26:=L.a26;have z75:=L.z26;have v26:=L.v26;have t37:=L.t37;have a37:=L.a37;have z37:=L.z37;have v37:=L.v37;have t44:=L.t44;have a44:=L.a44;have z44:=L.z44;have v44:=L.v44;have t64:=L.t64;have a64:=L.a64;have z64:=L.z64;have v64:=L.v64
  have u44:=run_underlying L.t44;have eg:=C.eg;have H0:=St.start C (ρ.t 44) hS hz;have hne:cb ∉ [blk]:=by have:=C.hblk;simp;omega
  have c0:=H0.c0;have hl:=H0.less C (x:=b) (y:=a) b a rfl rfl hb ha
  go_enter L.f39,BodyGg.n39_ntmps ρ
  cases hlv:lt d[b]! d[a]! with
  | true =>
    rw [hlv] at hl
    go_wp2_with (go_at_fn g;refine hl.mono ?_;rintro e w' ⟨rfl,H⟩;have hc':=hc.keep H.p hne;have cc:=hc'.c;have cf:=hc'.f)
    go_ret2;exact ⟨b,a,s+1,rfl, .inr ⟨rfl,rfl⟩,Nat.le_refl _,H.s.setCell_new _ _ _ hcb,(H.p.mono (by simp)).trans (Kp.setCell _ (by simp)),hc'.set _⟩
  | false =>
    rw [hlv] at hl
    go_wp2_with (go_at_fn g;refine hl.mono ?_;rintro e w' ⟨rfl,H⟩)
    go_ret2;exact ⟨a,b,s,rfl, .inl ⟨rfl,rfl⟩,Nat.le_succ _,H.s,H.p.mono (by simp),hc.keep H.p hne⟩
def Md (enc:α→List Value) (k blk off:Nat) (w0:World) (d:Array α) (cb s:Nat) (W:World) (p:Nat→Prop) (e:Ending) (w':World):Prop :=
  ∃ x s':Nat,e = .returned (.int .i64 x)∧p x∧s'≤s+3∧SWK enc k w0 blk off d w'∧Kp [blk,cb] W w'∧Ct cb s' w'
set_option maxHeartbeats 4000000 in
set_option maxRecDepth 100000 in
theorem med (L:LaysGg.n38 P ρ) (C:Cx P enc k lt g lb sf sb blk off n w0) (a b c:Nat) {x y z:Int} (hx:x=a) (hy:y=b) (hw:z=c) (hS:SWK enc k w0 blk off d W) (hz:d.size=n) (ha:a<n) (hb:b<n) (hd:c<n) (hc:Ct cb s W) (hcb:w0.heap.size≤cb) (hs:s+3<4611686018427387904) :
    Calls P (ρ.f 38) #[data g lb sf sb, .int .i64 x, .int .i64 y, .int .i64 z, .pointer (some ⟨cb,0,none⟩)] W (Md enc k blk off w0 d cb s W fun x=>x=a∨x=b∨x=c):=by
  subst hx hy hw;have mixed:=L.mixed;have t0:=L.t0;have a0:=L.a0;have z0:=L.z0;have v0:=L.v0;have t3:=L.t3;have a3:=L.a3;have z3:=L.z3;have v3:=L.v3;have t4:=L.t4;have a4:=L.a4;have z4:=L.z4;have v4:=L.v4;have t26:=L.t26;have a26:=L.a26;have z75:=L.z26;have v26:=L.v26;have t37:=L.t37;have a37:=L.a37;have z37:=L.z37;have v37:=L.v37;have t44:=L.t44;have a44:=L.a44;have z44:=L.z44;have v44:=L.v44;have t64:=L.t64;have a64:=L.a64;have z64:=L.z64;have v64:=L.v64;have t67:=L.t67;have a67:=L.a67;have z67:=L.z67;have v67:=L.v67
  have u44:=run_underlying L.t44;have e39:∀ args w,(callFunc (ρ.f 39) args).run P w = .ok (.enter (ρ.f 39) args) w:=enters_of L.f39 (by kernel_rfl) rfl;have hlt:=hS.lt C.hblk;have hcl:=hc.b;have H:St enc k g lb sf sb blk off n w0 [blk,cb] W W.heap.size d (W.alloc (box g lb sf sb (ρ.t 44))):=St.startAt (ρ.t 44) hS hz (by simp;omega);have hc:=hc.keep (Kp.alloc (l:=[]) (box g lb sf sb (ρ.t 44))) (by simp)
  have step:∀ {w':World} {B:Nat} {s':Nat} (x y:Nat),St enc k g lb sf sb blk off n w0 [blk,cb] W B d w'→Ct cb s' w'→x<n→y<n→s'<4611686018427387904 →
      Calls P (ρ.f 39) #[data g lb sf sb, .int .i64 x, .int .i64 y, .pointer (some ⟨cb,0,none⟩)] w' fun e w''=>∃ x' y' s'':Nat,e = .returned (.tuple #[.int .i64 x', .int .i64 y'])∧((x'=x∧y'=y)∨(x'=y∧y'=x))∧s''≤s'+1∧St enc k g lb sf sb blk off n w0 [blk,cb] W B d w''∧Ct cb s'' w'':=fun x y H hc hx hy hs =>
    (order { L with } C x y H.s H.z hx hy hc hcb hs).mono fun e w' ⟨x',y',s',h1,h2,h3,h4,h5,h6⟩=>⟨x',y',s',h1,h2,h3,H.step h4 H.z h5,h6⟩
  have HS:Aside _:=@step;clear step;have c0:=H.c0;have c1:=H.c1
  go_enter L.f38,BodyGg.n38_ntmps ρ
  go_upto_region 2 with (go_at_fn (ρ.f 39);refine (HS.out a b H hc ha hb (by omega)).mono ?_;rintro e w1 ⟨x1,y1,s1,rfl,h1,g1,H1,k1⟩)
  have c0:=H1.c0;have c1:=H1.c1
  go_upto_region 3 with (go_at_fn (ρ.f 39);refine (HS.out y1 c H1 k1 (by omega) hd (by omega)).mono ?_;rintro e w2 ⟨x2,y2,s2,rfl,h2,g2,H2,k2⟩)
  have c0:=H2.c0;have c1:=H2.c1
  go_wp2_with (go_at_fn (ρ.f 39);refine (HS.out x1 x2 H2 k2 (by omega) (by omega) (by omega)).mono ?_;rintro e w3 ⟨x3,y3,s3,rfl,h3,g3,H3,k3⟩)
  go_ret
  exact ⟨y3,s3,rfl,by omega,by omega,H3.s,H3.p,k3⟩
set_option maxHeartbeats 4000000 in
set_option maxRecDepth 100000 in
theorem medAdj (L:LaysGg.n37 P ρ) (C:Cx P enc k lt g lb sf sb blk off n w0) (a:Nat) (hS:SWK enc k w0 blk off d W) (hz:d.size=n) (ha:1≤a) (hb:a+1<n) (hc:Ct cb s W) (hcb:w0.heap.size≤cb) (hs:s+3<4611686018427387904) :
    Calls P (ρ.f 37) #[data g lb sf sb, .int .i64 a, .pointer (some ⟨cb,0,none⟩)] W (Md enc k blk off w0 d cb s W fun x=>a - 1≤x∧x≤a+1):=by
  have mixed:=L.mixed;have t0:=L.t0;have a0:=L.a0;have z0:=L.z0;have v0:=L.v0;have t3:=L.t3;have a3:=L.a3;have z3:=L.z3;have v3:=L.v3;have t4:=L.t4;have a4:=L.a4;have z4:=L.z4;have v4:=L.v4;have t26:=L.t26;have a26:=L.a26;have z75:=L.z26;have v26:=L.v26;have t37:=L.t37;have a37:=L.a37;have z37:=L.z37;have v37:=L.v37;have t44:=L.t44;have a44:=L.a44;have z44:=L.z44;have v44:=L.v44;have t64:=L.t64;have a64:=L.a64;have z64:=L.z64;have v64:=L.v64;have t67:=L.t67;have a67:=L.a67;have z67:=L.z67;have v67:=L.v67
  have u44:=run_underlying L.t44;have hsz:=C.hsz;have e38:∀ args w,(callFunc (ρ.f 38) args).run P w = .ok (.enter (ρ.f 38) args) w:=enters_of L.f38 (by kernel_rfl) rfl;have hlt:=hS.lt C.hblk;have hcl:=hc.b;have H:St enc k g lb sf sb blk off n w0 [blk,cb] W W.heap.size d (W.alloc (box g lb sf sb (ρ.t 44))):=St.startAt (ρ.t 44) hS hz (by simp;omega);have hc:=hc.keep (Kp.alloc (l:=[]) (box g lb sf sb (ρ.t 44))) (by simp);have hm:=med (ρ:=ρ) { L with } C (a - 1) a (a+1) (x:=(a:Int) - 1) (y:=a) (z:=(a:Int)+1) (by omega) rfl (by omega) H.s hz (by omega) (by omega) hb hc hcb hs;have c0:=H.c0;have c1:=H.c1
  go_enter L.f37,BodyGg.n37_ntmps ρ
  go_wp2_with (go_at_fn (ρ.f 38);refine hm.mono ?_;rintro e w1 ⟨x1,s1,rfl,h1,g1,h2,h3,k1⟩)
  go_ret
  exact ⟨x1,s1,rfl,by omega,g1,h2,H.p.trans h3,k1⟩
set_option maxHeartbeats 4000000 in
set_option maxRecDepth 100000 in
theorem pivot (L:LaysGg.n29 P ρ) (C:Cx P enc k lt g lb sf sb blk off n w0) (a b:Nat) (hS:SWK enc k w0 blk off d W) (hz:d.size=n) (hab:a<b) (hb:b≤n) :
    Calls P (ρ.f 29) #[data g lb sf sb, .int .i64 a, .int .i64 b] W fun e w' =>
      ∃ (p:Nat) (h:Int),e = .returned (.tuple #[.int .i64 p, .int .i64 h])∧a≤p∧p<b∧(h=0∨h=1∨h=2)∧SWK enc k w0 blk off d w'∧Kp [blk] W w':=by
  have mixed:=L.mixed;have t0:=L.t0;have a0:=L.a0;have z0:=L.z0;have v0:=L.v0;have t3:=L.t3;have a3:=L.a3;have z3:=L.z3;have v3:=L.v3;have t4:=L.t4;have a4:=L.a4;have z4:=L.z4;have v4:=L.v4;have t26:=L.t26;have a26:=L.a26;have z75:=L.z26;have v26:=L.v26;have t37:=L.t37;have a37:=L.a37;have z37:=L.z37;have v37:=L.v37;have t44:=L.t44;have a44:=L.a44;have z44:=L.z44;have v44:=L.v44;have t53:=L.t53;have a53:=L.a53;have z53:=L.z53;have v53:=L.v53;have t64:=L.t64;have a64:=L.a64;have z64:=L.z64;have v64:=L.v64;have t67:=L.t67;have a67:=L.a67;have z67:=L.z67;have v67:=L.v67
  have u44:=run_underlying L.t44;have hsz:=C.hsz;have e37:∀ args w,(callFunc (ρ.f 37) args).run P w = .ok (.enter (ρ.f 37) args) w:=enters_of L.f37 (by kernel_rfl) rfl;have e38:∀ args w,(callFunc (ρ.f 38) args).run P w = .ok (.enter (ρ.f 38) args) w:=enters_of L.f38 (by kernel_rfl) rfl;obtain ⟨cb,hcb⟩:∃ cb,cb=W.heap.size+1:=⟨_,rfl⟩;have hw0:=hS.le;have hlt:=hS.lt C.hblk
  have H:St enc k g lb sf sb blk off n w0 [blk,cb] W W.heap.size d ((W.alloc (box g lb sf sb (ρ.t 44))).alloc (.cells #[.int .i64 0] (ρ.t 3))) :=
    ⟨(hS.alloc _).alloc _,hz,(Kp.alloc _).trans (Kp.alloc _),by rw [World.cell?_alloc_past _ _ _ (by simp)];simp,by rw [World.cell?_alloc_past _ _ _ (by simp)];simp,by simp;omega,by simp;omega⟩
  have hc:Ct cb 0 ((W.alloc (box g lb sf sb (ρ.t 44))).alloc (.cells #[.int .i64 0] (ρ.t 3))):=by
    subst hcb;exact ⟨by rw [World.cell?_alloc_at _ _ _ _ (by simp)];rfl,World.frozen?_alloc_at _ _ _ _ (by simp),by simp⟩
  have mA:∀ {w':World} {B s':Nat} (x:Nat),St enc k g lb sf sb blk off n w0 [blk,cb] W B d w'→Ct cb s' w'→1≤x→x+1<n→s'+3<4611686018427387904 →
      Calls P (ρ.f 37) #[data g lb sf sb, .int .i64 x, .pointer (some ⟨cb,0,none⟩)] w' fun e w''=>∃ x' s'':Nat,e = .returned (.int .i64 x')∧(x - 1≤x'∧x'≤x+1)∧s''≤s'+3∧St enc k g lb sf sb blk off n w0 [blk,cb] W B d w''∧Ct cb s'' w'':=fun x H hc h1 h2 hs =>
    (medAdj { L with } C x H.s H.z h1 h2 hc (by omega) hs).mono fun e w' ⟨x',s',h1,h2,h3,h4,h5,h6⟩=>⟨x',s',h1,h2,h3,H.step h4 H.z h5,h6⟩
  have mD:∀ {w':World} {B s':Nat} (x y z:Nat),St enc k g lb sf sb blk off n w0 [blk,cb] W B d w'→Ct cb s' w'→x<n→y<n→z<n→s'+3<4611686018427387904 →
      Calls P (ρ.f 38) #[data g lb sf sb, .int .i64 x, .int .i64 y, .int .i64 z, .pointer (some ⟨cb,0,none⟩)] w' fun e w''=>∃ x' s'':Nat,e = .returned (.int .i64 x')∧(x'=x∨x'=y∨x'=z)∧s''≤s'+3∧St enc k g lb sf sb blk off n w0 [blk,cb] W B d w''∧Ct cb s'' w'':=fun x y z H hc h1 h2 h3 hs =>
    (med { L with } C x y z rfl rfl rfl H.s H.z h1 h2 h3 hc (by omega) hs).mono fun e w' ⟨x',s',h1,h2,h3,h4,h5,h6⟩=>⟨x',s',h1,h2,h3,H.step h4 H.z h5,h6⟩
  have MA:Aside _:=@mA;have MD:Aside _:=@mD;have HB:Hid (cb=W.heap.size+1):=hcb;obtain ⟨I,hI⟩:∃ I:Nat,I=a+(b - a) / 4 * 1:=⟨_,rfl⟩;obtain ⟨J,hJ⟩:∃ J:Nat,J=a+(b - a) / 4 * 2:=⟨_,rfl⟩;obtain ⟨K,hK⟩:∃ K:Nat,K=a+(b - a) / 4 * 3:=⟨_,rfl⟩;have eI:((a:Int)+((b:Int) - (a:Int)) / 4)=(I:Int):=by omega
  have eJ:((a:Int)+((b:Int) - (a:Int)) / 4 * 2)=(J:Int):=by omega
  have eK:((a:Int)+((b:Int) - (a:Int)) / 4 * 3)=(K:Int):=by omega
  have rI:a≤I∧I<b∧(8≤b - a→a<I∧I+1<b):=by omega
  have rJ:a≤J∧J<b∧(8≤b - a→a<J∧J+1<b):=by omega
  have rK:a≤K∧K<b∧(8≤b - a→a<K∧K+1<b):=by omega
  have eC:W.heap.size+1=cb:=hcb.symm;clear hI hJ hK mA mD hcb
  go_enter L.f29,BodyGg.n29_ntmps ρ
  go_upto_if 32 with fail
  go_cut [11] from 31 to 48 (fun s11 wc=>∃ j s:Nat,s11 = .int .i64 j∧a≤j∧j<b∧s≤12∧St enc k g lb sf sb blk off n w0 [blk,cb] W W.heap.size d wc∧Ct cb s wc)
  case first =>
    have c0:=H.c0;have c1:=H.c1;by_cases h8:8≤b - a
    · have h8z:8≤(b:Int) - (a:Int):=by omega
      go_upto_if 34 with fail
      go_cut [10,11,12] from 31 to 43 (fun s10 s11 s12 wc=>∃ i j m s:Nat,s10 = .int .i64 i∧s11 = .int .i64 j∧s12 = .int .i64 m∧a≤i∧i<b∧a≤j∧j<b∧a≤m∧m<b∧s≤9∧St enc k g lb sf sb blk off n w0 [blk,cb] W W.heap.size d wc∧Ct cb s wc)
      case first =>
        by_cases h50:50≤b - a
        · have h50z:50≤(b:Int) - (a:Int):=by omega
          go_upto_region 9 with (go_at_fn (ρ.f 37);refine (MA.out I H hc (by omega) (by omega) (by omega)).mono ?_;rintro e w1 ⟨x1,s1,rfl,h1,g1,H1,k1⟩)
          have c0:=H1.c0;have c1:=H1.c1
          go_upto_region 10 with (go_at_fn (ρ.f 37);refine (MA.out J H1 k1 (by omega) (by omega) (by omega)).mono ?_;rintro e w2 ⟨x2,s2,rfl,h2,g2,H2,k2⟩)
          have c0:=H2.c0;have c1:=H2.c1
          go_wp2_with (go_at_fn (ρ.f 37);refine (MA.out K H2 k2 (by omega) (by omega) (by omega)).mono ?_;rintro e w3 ⟨x3,s3,rfl,h3,g3,H3,k3⟩)
          go_meet
          exact ⟨x1,x2,x3,s3,rfl,rfl,rfl,by omega,by omega,by omega,by omega,by omega,by omega,by omega,H3,k3⟩
        · have h50z:¬ (50≤(b:Int) - (a:Int)):=by omega
          go_wp2;go_meet
          exact ⟨I,J,K,0,rfl,rfl,rfl,by omega,by omega,by omega,by omega,by omega,by omega,by omega,H,hc⟩
      clear H hc c0 c1;obtain ⟨i,j,m,s,rfl,rfl,rfl,hi1,hi2,hj1,hj2,hm1,hm2,hs,H,hc⟩:=hcut;have c0:=H.c0;have c1:=H.c1
      go_wp2_with (go_at_fn (ρ.f 38);refine (MD.out i j m H hc (by omega) (by omega) (by omega) (by omega)).mono ?_;rintro e w3 ⟨x3,s3,rfl,h3,g3,H3,k3⟩)
      go_meet
      exact ⟨x3,s3,rfl,by omega,by omega,by omega,H3,k3⟩
    · have h8z:¬ (8≤(b:Int) - (a:Int)):=by omega
      go_wp2;go_meet
      exact ⟨J,0,rfl,by omega,by omega,by omega,H,hc⟩
  clear H hc;obtain ⟨j,s,rfl,hj1,hj2,hs,H,hc⟩:=hcut;have cc:=hc.c;have hP:Kp [blk] W wc:=H.p.fresh (by simp;intro h;have:=HB.out;omega);go_wp2
  all_goals
    go_ret2;exact ⟨j,_,rfl,hj1,hj2,by simp,H.s,hP⟩
variable {P:Program} {ρ:Ren} {α:Type} [Inhabited α] {enc:α→List Value} {k:Nat} {lt:α→α→Bool} {g:Nat} {lb:Array Value} {sf:Nat} {sb:Array Value} {blk off n:Nat} {w0 W:World} {d:Array α}
set_option maxHeartbeats 4000000 in
set_option maxRecDepth 100000 in
theorem parteq (L:LaysGg.n32 P ρ) (C:Cx P enc k lt g lb sf sb blk off n w0) (a b pivot:Nat) (hS:SWK enc k w0 blk off d W) (hz:d.size=n) (hap:a≤pivot) (hpb:pivot<b) (hb:b≤n) :
    Calls P (ρ.f 32) #[data g lb sf sb, .int .i64 a, .int .i64 b, .int .i64 pivot] W (En enc k blk off w0 (Sort.partitionEqual lt d a b pivot).2 W (.int .i64 (Sort.partitionEqual lt d a b pivot).1)):=by
  have mixed:=L.mixed;have t0:=L.t0;have a0:=L.a0;have z0:=L.z0;have v0:=L.v0;have t3:=L.t3;have a3:=L.a3;have z3:=L.z3;have v3:=L.v3;have t4:=L.t4;have a4:=L.a4;have z4:=L.z4;have v4:=L.v4;have t26:=L.t26;have a26:=L.a26;have z75:=L.z26;have v26:=L.v26;have t37:=L.t37;have a37:=L.a37;have z37:=L.z37;have v37:=L.v37;have t44:=L.t44;have a44:=L.a44;have z44:=L.z44;have v44:=L.v44
  have u44:=run_underlying L.t44;have eg:=C.eg;have hsz:=C.hsz;have H:=St.start C (ρ.t 44) hS hz;have c1:=H.c1;obtain ⟨w2,hs,H⟩:=H.swap C (x:=a) (y:=pivot) a pivot rfl rfl (by omega) (by omega)
  go_enter L.f32,BodyGg.n32_ntmps ρ
  go_wp2
  go_loopg [9,10] (b - 1+1 - (a+1)) (fun kx s9 s10 wr=>∃ (i j:Nat) (dk:Array α),s9 = .int .i64 i∧s10 = .int .i64 j∧a<i∧i≤j+1∧j<b∧j+1 - i≤kx∧St enc k g lb sf sb blk off n w0 [blk] W W.heap.size dk wr∧Hid (partEqLoop lt a i j dk=partEqLoop lt a (a+1) (b - 1) (swp d a pivot)))
  case atStart=>exact ⟨a+1,b - 1,_,by go_num,by go_num,by omega,by omega,by omega,Nat.le_refl _,H,rfl⟩
  case round =>
    clear H hs c1;obtain ⟨i,j,dk,rfl,rfl,hai,hij,hjb,hkx,H,HE⟩:=hrel
    go_upto_block 2 with fail
    go_cut [9] from 20 to 32 (fun s wc=>∃ i2:Nat,s = .int .i64 i2∧i≤i2∧i2≤j+1∧Hid (i2=scanUp (fun x => !lt dk[a]! x) dk j i)∧St enc k g lb sf sb blk off n w0 [blk] W W.heap.size dk wc)
    case first =>
      go_wp2_with fail
      go_loopg [9] (j+1 - i) (fun kx s wr=>∃ i2:Nat,s = .int .i64 i2∧i≤i2∧i2≤j+1∧j+1 - i2≤kx∧Hid (scanUp (fun x => !lt dk[a]! x) dk j i2=scanUp (fun x => !lt dk[a]! x) dk j i)∧St enc k g lb sf sb blk off n w0 [blk] W W.heap.size dk wr)
      case atStart=>exact ⟨i,rfl,Nat.le_refl _,hij,Nat.le_refl _,rfl,H⟩
      case round =>
        clear H;obtain ⟨i2,rfl,hi1,hi2,hk2,HS,H⟩:=hrel;have c0:=H.c0;by_cases hle:i2≤j
        · have hlez:(i2:Int)≤(j:Int):=by omega
          have hl:=H.less C (x:=a) (y:=i2) a i2 rfl rfl (by omega) (by omega)
          cases hlv:lt dk[a]! dk[i2]! with
          | false =>
            rw [hlv] at hl
            go_wp2_with (go_at_fn g;refine hl.mono ?_;rintro e w' ⟨rfl,H'⟩)
            go_roundg (j+1 - (i2+1))
            case measure=>omega
            case rel=>exact ⟨i2+1,by go_num,by omega,by omega,Nat.le_refl _,show Hid _ from (scanUp_go (fun x => !lt dk[a]! x) dk j i2 hle (by simp [hlv])).symm.trans HS.out,H'⟩
          | true =>
            rw [hlv] at hl
            go_wp2_with (go_at_fn g;refine hl.mono ?_;rintro e w' ⟨rfl,H'⟩)
            go_meet
            exact ⟨i2,rfl,hi1,hi2,(scanUp_end (fun x => !lt dk[a]! x) dk j i2 (.inr (by simp [hlv]))).symm.trans HS.out,H'⟩
        · have hlez:¬ ((i2:Int)≤(j:Int)):=by omega
          go_wp2;go_meet
          exact ⟨i2,rfl,hi1,hi2,(scanUp_end (fun x => !lt dk[a]! x) dk j i2 (.inl hle)).symm.trans HS.out,H⟩
    clear H;obtain ⟨i2,rfl,hi1,hi2,hu,H⟩:=hcut
    go_upto_block 4 with fail
    go_cut [10] from 33 to 44 (fun s wc=>∃ j2:Nat,s = .int .i64 j2∧j2≤j∧i2≤j2+1∧Hid (j2=scanDown (fun x=>lt dk[a]! x) dk i2 j)∧St enc k g lb sf sb blk off n w0 [blk] W W.heap.size dk wc)
    case first =>
      go_wp2_with fail
      go_loopg [10] (j) (fun kx s wr=>∃ j2:Nat,s = .int .i64 j2∧j2≤j∧i2≤j2+1∧j2≤kx∧Hid (scanDown (fun x=>lt dk[a]! x) dk i2 j2=scanDown (fun x=>lt dk[a]! x) dk i2 j)∧St enc k g lb sf sb blk off n w0 [blk] W W.heap.size dk wr)
      case atStart=>exact ⟨j,rfl,Nat.le_refl _,hi2,Nat.le_refl _,rfl,H⟩
      case round =>
        clear H;obtain ⟨j2,rfl,hj1,hj2,hk2,HS,H⟩:=hrel;have c0:=H.c0;by_cases hle:i2≤j2
        · have hlez:(i2:Int)≤(j2:Int):=by omega
          have hl:=H.less C (x:=a) (y:=j2) a j2 rfl rfl (by omega) (by omega)
          cases hlv:lt dk[a]! dk[j2]! with
          | true =>
            rw [hlv] at hl
            go_wp2_with (go_at_fn g;refine hl.mono ?_;rintro e w' ⟨rfl,H'⟩)
            go_roundg (j2 - 1)
            case measure=>omega
            case rel=>exact ⟨j2 - 1,by go_num,by omega,by omega,Nat.le_refl _,show Hid _ from (scanDown_go (fun x=>lt dk[a]! x) dk i2 j2 hle (by omega) (by simp [hlv])).symm.trans HS.out,H'⟩
          | false =>
            rw [hlv] at hl
            go_wp2_with (go_at_fn g;refine hl.mono ?_;rintro e w' ⟨rfl,H'⟩)
            go_meet
            exact ⟨j2,rfl,hj1,hj2,(scanDown_end (fun x=>lt dk[a]! x) dk i2 j2 (.inr (by simp [hlv]))).symm.trans HS.out,H'⟩
        · have hlez:¬ ((i2:Int)≤(j2:Int)):=by omega
          go_wp2;go_meet
          exact ⟨j2,rfl,hj1,hj2,(scanDown_end (fun x=>lt dk[a]! x) dk i2 j2 (.inl hle)).symm.trans HS.out,H⟩
    clear H;obtain ⟨j2,rfl,hj1,hj2,hd,H⟩:=hcut;by_cases hgt:j2<i2
    · have hgz:(i2:Int) > (j2:Int):=by omega
      go_wp2;go_ret
      have e:=partEq_break lt a i j dk hu.out hd.out hgt;exact H.doneAs (by unfold Sort.partitionEqual;rw [← HE.out,e]) (by unfold Sort.partitionEqual;rw [← HE.out,e];rfl)
    · have hgz:¬ ((i2:Int) > (j2:Int)):=by omega
      have hlt3:=scans_lt lt a i j dk (by omega) hu.out hd.out (by omega);have c1:=H.c1;obtain ⟨w2,hs,H2⟩:=H.swap C (x:=i2) (y:=j2) i2 j2 rfl rfl (by omega) (by omega);go_wp2
      go_roundg (j2 - 1+1 - (i2+1))
      case measure=>omega
      case rel=>exact ⟨i2+1,j2 - 1,_,by go_num,by go_num,by omega,by omega,by omega,Nat.le_refl _,H2,show Hid _ from by rw [← HE.out];exact (partEq_go lt a i j dk hu.out hd.out (by omega)).symm⟩
set_option maxHeartbeats 4000000 in
set_option maxRecDepth 100000 in
theorem part (L : LaysGg.n33 P ρ) (C:Cx P enc k lt g lb sf sb blk off n w0) (a b pivot:Nat) (hS:SWK enc k w0 blk off d W) (hz:d.size=n) (hap:a≤pivot) (hpb:pivot<b) (hb:b≤n) :
    Calls P (ρ.f 33) #[data g lb sf sb, .int .i64 a, .int .i64 b, .int .i64 pivot] W (En enc k blk off w0 (Sort.partition lt d a b pivot).2.2 W (.tuple #[.int .i64 (Sort.partition lt d a b pivot).1, .bool (Sort.partition lt d a b pivot).2.1])):=by
  have mixed:=L.mixed;have t0:=L.t0;have a0:=L.a0;have z0:=L.z0;have v0:=L.v0;have t3:=L.t3;have a3:=L.a3;have z3:=L.z3;have v3:=L.v3;have t4:=L.t4;have a4:=L.a4;have z4:=L.z4;have v4:=L.v4;have t26:=L.t26;have a26:=L.a26;have z75:=L.z26;have v26:=L.v26;have t37:=L.t37;have a37:=L.a37;have z37:=L.z37;have v37:=L.v37;have t44:=L.t44;have a44:=L.a44;have z44:=L.z44;have v44:=L.v44
  have u44:=run_underlying L.t44;have eg:=C.eg;have hsz:=C.hsz;have H:=St.start C (ρ.t 44) hS hz;have c1:=H.c1;obtain ⟨w2,hs,H⟩:=H.swap C (x:=a) (y:=pivot) a pivot rfl rfl (by omega) (by omega);obtain ⟨i,hi⟩:∃ i:Nat,i=a+1:=⟨_,rfl⟩;obtain ⟨j,hj⟩:∃ j:Nat,j=b - 1:=⟨_,rfl⟩;obtain ⟨dk,hdk⟩:∃ dk:Array α,dk=swp d a pivot:=⟨_,rfl⟩;rw [← hdk] at H;have hij:i≤j+1∧a<i∧j<b:=by omega
  obtain ⟨hij,hai,hjb⟩:=hij;have HI:Hid (i=a+1):=hi;have HJ:Hid (j=b - 1):=hj;have HD:Hid (dk=swp d a pivot):=hdk;have ei:(a:Int)+1=(i:Int):=by omega
  have ej:(b:Int) - 1=(j:Int):=by omega
  clear hi hj hdk
  go_enter L.f33,BodyGg.n33_ntmps ρ
  go_upto_block 0 with fail
  clear ei ej hs c1
  go_cut [10] from 21 to 32 (fun s wc=>∃ i2:Nat,s = .int .i64 i2∧i≤i2∧i2≤j+1∧Hid (i2=scanUp (fun x=>lt x dk[a]!) dk j i)∧St enc k g lb sf sb blk off n w0 [blk] W W.heap.size dk wc)
  case first =>
    go_wp2_with fail
    go_loopg [10] (j+1 - i) (fun kx s wr=>∃ i2:Nat,s = .int .i64 i2∧i≤i2∧i2≤j+1∧j+1 - i2≤kx∧Hid (scanUp (fun x=>lt x dk[a]!) dk j i2=scanUp (fun x=>lt x dk[a]!) dk j i)∧St enc k g lb sf sb blk off n w0 [blk] W W.heap.size dk wr)
    case atStart=>exact ⟨i,rfl,Nat.le_refl _,hij,Nat.le_refl _,rfl,H⟩
    case round =>
      clear H;obtain ⟨i2,rfl,hi1,hi2,hk2,HS,H⟩:=hrel;have c0:=H.c0;by_cases hle:i2≤j
      · have hlez:(i2:Int)≤(j:Int):=by omega
        have hl:=H.less C (x:=i2) (y:=a) i2 a rfl rfl (by omega) (by omega)
        cases hlv:lt dk[i2]! dk[a]! with
        | true =>
          rw [hlv] at hl
          go_wp2_with (go_at_fn g;refine hl.mono ?_;rintro e w' ⟨rfl,H'⟩)
          go_roundg (j+1 - (i2+1))
          case measure=>omega
          case rel=>exact ⟨i2+1,by go_num,by omega,by omega,Nat.le_refl _,show Hid _ from (scanUp_go (fun x=>lt x dk[a]!) dk j i2 hle (by simp [hlv])).symm.trans HS.out,H'⟩
        | false =>
          rw [hlv] at hl
          go_wp2_with (go_at_fn g;refine hl.mono ?_;rintro e w' ⟨rfl,H'⟩)
          go_meet
          exact ⟨i2,rfl,hi1,hi2,(scanUp_end (fun x=>lt x dk[a]!) dk j i2 (.inr (by simp [hlv]))).symm.trans HS.out,H'⟩
      · have hlez:¬ ((i2:Int)≤(j:Int)):=by omega
        go_wp2;go_meet
        exact ⟨i2,rfl,hi1,hi2,(scanUp_end (fun x=>lt x dk[a]!) dk j i2 (.inl hle)).symm.trans HS.out,H⟩
  clear H;obtain ⟨i2,rfl,hi1,hi2,hu,H⟩:=hcut
  go_upto_block 2 with fail
  go_cut [11] from 33 to 45 (fun s wc=>∃ j2:Nat,s = .int .i64 j2∧j2≤j∧i2≤j2+1∧Hid (j2=scanDown (fun x => !lt x dk[a]!) dk i2 j)∧St enc k g lb sf sb blk off n w0 [blk] W W.heap.size dk wc)
  case first =>
    go_wp2_with fail
    go_loopg [11] (j) (fun kx s wr=>∃ j2:Nat,s = .int .i64 j2∧j2≤j∧i2≤j2+1∧j2≤kx∧Hid (scanDown (fun x => !lt x dk[a]!) dk i2 j2=scanDown (fun x => !lt x dk[a]!) dk i2 j)∧St enc k g lb sf sb blk off n w0 [blk] W W.heap.size dk wr)
    case atStart=>exact ⟨j,rfl,Nat.le_refl _,hi2,Nat.le_refl _,rfl,H⟩
    case round =>
      clear H;obtain ⟨j2,rfl,hj1,hj2,hk2,HS,H⟩:=hrel;have c0:=H.c0;by_cases hle:i2≤j2
      · have hlez:(i2:Int)≤(j2:Int):=by omega
        have hl:=H.less C (x:=j2) (y:=a) j2 a rfl rfl (by omega) (by omega)
        cases hlv:lt dk[j2]! dk[a]! with
        | false =>
          rw [hlv] at hl
          go_wp2_with (go_at_fn g;refine hl.mono ?_;rintro e w' ⟨rfl,H'⟩)
          go_roundg (j2 - 1)
          case measure=>omega
          case rel=>exact ⟨j2 - 1,by go_num,by omega,by omega,Nat.le_refl _,show Hid _ from (scanDown_go (fun x => !lt x dk[a]!) dk i2 j2 hle (by omega) (by simp [hlv])).symm.trans HS.out,H'⟩
        | true =>
          rw [hlv] at hl
          go_wp2_with (go_at_fn g;refine hl.mono ?_;rintro e w' ⟨rfl,H'⟩)
          go_meet
          exact ⟨j2,rfl,hj1,hj2,(scanDown_end (fun x => !lt x dk[a]!) dk i2 j2 (.inr (by simp [hlv]))).symm.trans HS.out,H'⟩
      · have hlez:¬ ((i2:Int)≤(j2:Int)):=by omega
        go_wp2;go_meet
        exact ⟨j2,rfl,hj1,hj2,(scanDown_end (fun x => !lt x dk[a]!) dk i2 j2 (.inl hle)).symm.trans HS.out,H⟩
  clear H;obtain ⟨j2,rfl,hj1,hj2,hd,H⟩:=hcut;have c1:=H.c1;by_cases hgt:j2<i2
  · have hgz:(i2:Int) > (j2:Int):=by omega
    have hj0:Hid (a≤j2):=by
      have:=hu;have:=hd
      show a≤j2
      omega
    obtain ⟨w2,hs,H2⟩:=H.swap C (x:=j2) (y:=a) j2 a rfl rfl (by omega) (by omega);go_wp2;go_ret2;have e:=part_first_break lt d a b pivot HI.out HJ.out HD.out hu.out hd.out hgt;exact H2.doneAs (by rw [e]) (by (rw [e])<;>rfl)
  · have hgz : ¬ ((i2:Int) > (j2:Int)):=by omega
    have hlt3:=part_scans_lt lt a i j dk (by omega) hu.out hd.out (by omega);obtain ⟨w2,hs,H2⟩:=H.swap C (x:=i2) (y:=j2) i2 j2 rfl rfl (by omega) (by omega);have PF:Hid (Sort.partition lt d a b pivot=((partLoop lt a (i2+1) (j2 - 1) (swp dk i2 j2)).1,false,swp (partLoop lt a (i2+1) (j2 - 1) (swp dk i2 j2)).2 (partLoop lt a (i2+1) (j2 - 1) (swp dk i2 j2)).1 a)):=part_first_go lt d a b pivot HI.out HJ.out HD.out hu.out hd.out (by omega);have hr:a<i2+1∧i2+1≤j2 - 1+1∧j2 - 1<b:=by omega
    obtain ⟨r1,r2,r3⟩:=hr;obtain ⟨I0,hI0⟩:∃ I0:Nat,I0=i2+1:=⟨_,rfl⟩;obtain ⟨J0,hJ0⟩:∃ J0:Nat,J0=j2 - 1:=⟨_,rfl⟩;rw [← hI0,← hJ0] at PF r2;rw [← hI0] at r1;rw [← hJ0] at r3;have ei:(i2:Int)+1=(I0:Int):=by omega
    have ej:(j2:Int) - 1=(J0:Int):=by omega
    have hgb:decide ((j2:Int)<(i2:Int))=false:=decide_eq_false (by omega)
    generalize swp dk i2 j2=D0 at PF H2
    clear hI0 hJ0;go_wp2;clear H hs hu hd hgt hlt3 HI HJ HD c1 hi1 hi2 hj1 hj2 hai hij hjb
    go_loopg [10,11] (J0+1 - I0) (fun kx s10 s11 wr=>∃ (i j:Nat) (dk:Array α),s10 = .int .i64 i∧s11 = .int .i64 j∧a<i∧i≤j+1∧j<b∧j+1 - i≤kx∧St enc k g lb sf sb blk off n w0 [blk] W W.heap.size dk wr∧Hid (partLoop lt a i j dk=partLoop lt a I0 J0 D0))
    case atStart=>exact ⟨I0,J0,_,rfl,rfl,r1,r2,r3,Nat.le_refl _,H2,rfl⟩
    case round =>
      clear H2 ei ej r1 r2 r3;obtain ⟨i,j,dk,rfl,rfl,hai,hij,hjb,hkx,H,HE⟩:=hrel
      go_upto_block 6 with fail
      go_cut [10] from 64 to 75 (fun s wc=>∃ i2:Nat,s = .int .i64 i2∧i≤i2∧i2≤j+1∧Hid (i2=scanUp (fun x=>lt x dk[a]!) dk j i)∧St enc k g lb sf sb blk off n w0 [blk] W W.heap.size dk wc)
      case first =>
        go_wp2_with fail
        go_loopg [10] (j+1 - i) (fun kx s wr=>∃ i2:Nat,s = .int .i64 i2∧i≤i2∧i2≤j+1∧j+1 - i2≤kx∧Hid (scanUp (fun x=>lt x dk[a]!) dk j i2=scanUp (fun x=>lt x dk[a]!) dk j i)∧St enc k g lb sf sb blk off n w0 [blk] W W.heap.size dk wr)
        case atStart=>exact ⟨i,rfl,Nat.le_refl _,hij,Nat.le_refl _,rfl,H⟩
        case round =>
          clear H;obtain ⟨i2,rfl,hi1,hi2,hk2,HS,H⟩:=hrel;have c0:=H.c0;by_cases hle:i2≤j
          · have hlez:(i2:Int)≤(j:Int):=by omega
            have hl:=H.less C (x:=i2) (y:=a) i2 a rfl rfl (by omega) (by omega)
            cases hlv:lt dk[i2]! dk[a]! with
            | true =>
              rw [hlv] at hl
              go_wp2_with (go_at_fn g;refine hl.mono ?_;rintro e w' ⟨rfl,H'⟩)
              go_roundg (j+1 - (i2+1))
              case measure=>omega
              case rel=>exact ⟨i2+1,by go_num,by omega,by omega,Nat.le_refl _,show Hid _ from (scanUp_go (fun x=>lt x dk[a]!) dk j i2 hle (by simp [hlv])).symm.trans HS.out,H'⟩
            | false =>
              rw [hlv] at hl
              go_wp2_with (go_at_fn g;refine hl.mono ?_;rintro e w' ⟨rfl,H'⟩)
              go_meet
              exact ⟨i2,rfl,hi1,hi2,(scanUp_end (fun x=>lt x dk[a]!) dk j i2 (.inr (by simp [hlv]))).symm.trans HS.out,H'⟩
          · have hlez:¬ ((i2:Int)≤(j:Int)):=by omega
            go_wp2;go_meet
            exact ⟨i2,rfl,hi1,hi2,(scanUp_end (fun x=>lt x dk[a]!) dk j i2 (.inl hle)).symm.trans HS.out,H⟩
      clear H;obtain ⟨i2,rfl,hi1,hi2,hu,H⟩:=hcut
      go_upto_block 8 with fail
      go_cut [11] from 76 to 88 (fun s wc=>∃ j2:Nat,s = .int .i64 j2∧j2≤j∧i2≤j2+1∧Hid (j2=scanDown (fun x => !lt x dk[a]!) dk i2 j)∧St enc k g lb sf sb blk off n w0 [blk] W W.heap.size dk wc)
      case first =>
        go_wp2_with fail
        go_loopg [11] (j) (fun kx s wr=>∃ j2:Nat,s = .int .i64 j2∧j2≤j∧i2≤j2+1∧j2≤kx∧Hid (scanDown (fun x => !lt x dk[a]!) dk i2 j2=scanDown (fun x => !lt x dk[a]!) dk i2 j)∧St enc k g lb sf sb blk off n w0 [blk] W W.heap.size dk wr)
        case atStart=>exact ⟨j,rfl,Nat.le_refl _,hi2,Nat.le_refl _,rfl,H⟩
        case round =>
          clear H;obtain ⟨j2,rfl,hj1,hj2,hk2,HS,H⟩:=hrel;have c0:=H.c0;by_cases hle:i2≤j2
          · have hlez:(i2:Int)≤(j2:Int):=by omega
            have hl:=H.less C (x:=j2) (y:=a) j2 a rfl rfl (by omega) (by omega)
            cases hlv:lt dk[j2]! dk[a]! with
            | false =>
              rw [hlv] at hl
              go_wp2_with (go_at_fn g;refine hl.mono ?_;rintro e w' ⟨rfl,H'⟩)
              go_roundg (j2 - 1)
              case measure=>omega
              case rel=>exact ⟨j2 - 1,by go_num,by omega,by omega,Nat.le_refl _,show Hid _ from (scanDown_go (fun x => !lt x dk[a]!) dk i2 j2 hle (by omega) (by simp [hlv])).symm.trans HS.out,H'⟩
            | true =>
              rw [hlv] at hl
              go_wp2_with (go_at_fn g;refine hl.mono ?_;rintro e w' ⟨rfl,H'⟩)
              go_meet
              exact ⟨j2,rfl,hj1,hj2,(scanDown_end (fun x => !lt x dk[a]!) dk i2 j2 (.inr (by simp [hlv]))).symm.trans HS.out,H'⟩
          · have hlez:¬ ((i2:Int)≤(j2:Int)):=by omega
            go_wp2;go_meet
            exact ⟨j2,rfl,hj1,hj2,(scanDown_end (fun x => !lt x dk[a]!) dk i2 j2 (.inl hle)).symm.trans HS.out,H⟩
      clear H;obtain ⟨j2,rfl,hj1,hj2,hd,H⟩:=hcut;have c1:=H.c1;by_cases hgt:j2<i2
      · have hgz:(i2:Int) > (j2:Int):=by omega
        obtain ⟨w2,hs,H2⟩:=H.swap C (x:=j2) (y:=a) j2 a rfl rfl (by omega) (by omega);go_wp2;go_ret2;have e:=part_break lt a i j dk hu.out hd.out hgt;exact H2.doneAs (by rw [PF.out,← HE.out,e]) (by (rw [PF.out,← HE.out,e])<;>rfl)
      · have hgz:¬ ((i2:Int) > (j2:Int)):=by omega
        have hlt3:=part_scans_lt lt a i j dk (by omega) hu.out hd.out (by omega);obtain ⟨w2,hs,H2⟩:=H.swap C (x:=i2) (y:=j2) i2 j2 rfl rfl (by omega) (by omega);go_wp2
        go_roundg (j2 - 1+1 - (i2+1))
        case measure=>omega
        case rel=>exact ⟨i2+1,j2 - 1,_,by go_num,by go_num,by omega,by omega,by omega,Nat.le_refl _,H2,show Hid _ from by rw [← HE.out];exact (part_go lt a i j dk hu.out hd.out (by omega)).symm⟩
variable {P:Program} {ρ:Ren} {α:Type} [Inhabited α] {enc:α→List Value} {k:Nat} {lt:α→α→Bool} {g:Nat} {lb:Array Value} {sf:Nat} {sb:Array Value} {blk off n:Nat} {w0 W:World} {d:Array α}
set_option maxHeartbeats 4000000 in
set_option maxRecDepth 100000 in
theorem partial_ (L : LaysGg.n31 P ρ) (C:Cx P enc k lt g lb sf sb blk off n w0) (a b:Nat) (hS:SWK enc k w0 blk off d W) (hz:d.size=n) (hab:a<b) (hb:b≤n) :
    Calls P (ρ.f 31) #[data g lb sf sb, .int .i64 a, .int .i64 b] W (En enc k blk off w0 (Sort.partialInsertionSort lt d a b).1 W (.bool (Sort.partialInsertionSort lt d a b).2)):=by
  have mixed:=L.mixed;have t0:=L.t0;have a0:=L.a0;have z0:=L.z0;have v0:=L.v0;have t3:=L.t3;have a3:=L.a3;have z3:=L.z3;have v3:=L.v3;have t4:=L.t4;have a4:=L.a4;have z4:=L.z4;have v4:=L.v4;have t26:=L.t26;have a26:=L.a26;have z75:=L.z26;have v26:=L.v26;have t37:=L.t37;have a37:=L.a37;have z37:=L.z37;have v37:=L.v37;have t44:=L.t44;have a44:=L.a44;have z44:=L.z44;have v44:=L.v44
  have u44:=run_underlying L.t44;have eg:=C.eg;have hsz:=C.hsz;have H:=St.start C (ρ.t 44) hS hz
  go_enter L.f31,BodyGg.n31_ntmps ρ
  go_wp2
  go_loopg [7,8] 5 (fun kx s7 s8 wr=>∃ (i s:Nat) (dk:Array α),s7 = .int .i64 i∧s8 = .int .i64 s∧s≤5∧5 - s≤kx∧a<i∧i≤b∧St enc k g lb sf sb blk off n w0 [blk] W W.heap.size dk wr∧Hid (partialIns lt a b (5 - s) i dk=Sort.partialInsertionSort lt d a b))
  case atStart=>exact ⟨a+1,0,d,by go_num,rfl,by omega,by omega,by omega,by omega,H,rfl⟩
  case round =>
    clear H;obtain ⟨i,s,dk,rfl,rfl,hs5,hkx,hai,hib,H,HO⟩:=hrel;by_cases hs:s<5
    · have hsz5 : (s : Int)<5:=by omega
      go_upto_block 2 with fail
      go_cut [7] from 17 to 30 (fun s7 wc=>∃ kx:Nat,s7 = .int .i64 kx∧i≤kx∧kx≤b∧Hid (scanSorted lt dk b i=kx)∧St enc k g lb sf sb blk off n w0 [blk] W W.heap.size dk wc)
      case first =>
        go_wp2_with fail
        go_loopg [7] (b - i) (fun gx s7 wr=>∃ kx:Nat,s7 = .int .i64 kx∧i≤kx∧kx≤b∧b - kx≤gx∧Hid (scanSorted lt dk b kx=scanSorted lt dk b i)∧St enc k g lb sf sb blk off n w0 [blk] W W.heap.size dk wr)
        case atStart=>exact ⟨i,rfl,Nat.le_refl _,hib,Nat.le_refl _,rfl,H⟩
        case round =>
          clear H;obtain ⟨kx,rfl,h1,h2,hg,HS,H⟩:=hrel;have c0:=H.c0;by_cases hlt:kx<b
          · have hltz:(kx:Int)<(b:Int):=by omega
            have hl:=H.less C (x:=kx) (y:=(kx:Int) - 1) kx (kx - 1) rfl (by omega) (by omega) (by omega)
            cases hlv:lt dk[kx]! dk[kx - 1]! with
            | false =>
              rw [hlv] at hl
              go_wp2_with (go_at_fn g;refine hl.mono ?_;rintro e w' ⟨rfl,H'⟩)
              go_roundg (b - (kx+1))
              case measure=>omega
              case rel=>exact ⟨kx+1,by go_num,by omega,by omega,Nat.le_refl _,show Hid _ from by rw [← HS.out,scanSorted_go lt dk b kx hlt hlv];exact rfl,H'⟩
            | true =>
              rw [hlv] at hl
              go_wp2_with (go_at_fn g;refine hl.mono ?_;rintro e w' ⟨rfl,H'⟩)
              go_meet
              exact ⟨kx,rfl,h1,h2,HS.out.symm.trans (scanSorted_stop lt dk b kx (.inr hlv)),H'⟩
          · have hltz:¬ ((kx:Int)<(b:Int)):=by omega
            go_wp2;go_meet
            exact ⟨kx,rfl,h1,h2,HS.out.symm.trans (scanSorted_stop lt dk b kx (.inl hlt)),H⟩
      clear H;obtain ⟨kx,rfl,h1,h2,HK,H⟩:=hcut;by_cases hkb:kx=b
      · have hke:((kx:Int)==(b:Int))=true:=by rw [hkb];simp
        have HB:Hid (kx=b):=hkb;clear hkb;go_wp2;go_ret
        have e:=pi_true lt a b s i dk hs (HK.out.trans HB.out);exact H.doneAs (by rw [← HO.out,e]) (by (rw [← HO.out,e])<;>rfl)
      · have hke : ((kx:Int)==(b:Int))=false:=beq_eq_false_iff_ne.2 (by omega);by_cases h50:b - a<50
        · have h50z:(b:Int) - (a:Int)<50:=by omega
          have HB:Hid (¬ kx=b):=hkb;clear hkb;go_wp2;go_ret
          have e:=pi_short lt a b s i dk hs (by rw [HK.out];exact HB.out) h50;exact H.doneAs (by rw [← HO.out,e]) (by (rw [← HO.out,e])<;>rfl)
        · have h50z : ¬ ((b:Int) - (a:Int)<50):=by omega
          have hr:kx<b:=by omega
          have PG:Hid _:=pi_go lt a b s i kx dk hs HK.out hkb h50;have c1:=H.c1;obtain ⟨w2,hsw,H2⟩:=H.swap C (x:=kx) (y:=(kx:Int) - 1) kx (kx - 1) rfl (by omega) (by omega) (by omega);clear hkb
          generalize swp dk kx (kx - 1)=dx at PG H2
          go_upto_if 47 with fail
          clear hsw H c1
          go_cut [9] from 44 to 66 (fun s9 wc=>St enc k g lb sf sb blk off n w0 [blk] W W.heap.size (fixDown lt a kx dx) wc)
          case first =>
            by_cases hka:kx - a ≥ 2
            · have hkaz:(kx:Int) - (a:Int) ≥ 2:=by omega
              go_wp2_with fail
              go_loopg [9] (kx - 1) (fun gx s9 wr=>∃ (j:Nat) (dj:Array α),s9 = .int .i64 j∧j≤kx - 1∧j≤gx∧St enc k g lb sf sb blk off n w0 [blk] W W.heap.size dj wr∧Hid (shiftDown lt j dj=fixDown lt a kx dx))
              case atStart=>exact ⟨kx - 1,dx,by go_num,Nat.le_refl _,Nat.le_refl _,H2,show Hid _ from by unfold fixDown;rw [if_pos hka];exact rfl⟩
              case round =>
                clear H2;obtain ⟨j,dj,rfl,hj1,hj2,H,HD⟩:=hrel;have c0:=H.c0;by_cases hj:1≤j
                · have hjz:(j:Int) ≥ 1:=by omega
                  have hl:=H.less C (x:=j) (y:=(j:Int) - 1) j (j - 1) rfl (by omega) (by omega) (by omega)
                  cases hlv:lt dj[j]! dj[j - 1]! with
                  | true =>
                    rw [hlv] at hl
                    go_wp2_with (go_at_fn g;refine hl.mono ?_;rintro e w' ⟨rfl,H'⟩;have c1':=H'.c1;obtain ⟨w2,hs,H2⟩:=H'.swap C (x:=j) (y:=(j:Int) - 1) j (j - 1) rfl (by omega) (by omega) (by omega))
                    go_roundg (j - 1)
                    case measure=>omega
                    case rel=>exact ⟨j - 1,_,by go_num,by omega,Nat.le_refl _,H2,show Hid _ from by rw [← HD.out,shiftDown_go lt j dj hj hlv];exact rfl⟩
                  | false =>
                    rw [hlv] at hl
                    go_wp2_with (go_at_fn g;refine hl.mono ?_;rintro e w' ⟨rfl,H'⟩)
                    go_meet
                    have e:=HD.out;rw [shiftDown_stop lt j dj (.inr hlv)] at e;exact e▸H'
                · have hjz:¬ ((j:Int) ≥ 1):=by omega
                  go_wp2;go_meet
                  have e:=HD.out;rw [shiftDown_stop lt j dj (.inl (by omega))] at e;exact e▸H
            · have hkaz:¬ ((kx:Int) - (a:Int) ≥ 2):=by omega
              go_wp2;go_meet
              unfold fixDown
              rw [if_neg hka];exact H2
          clear H2;have H:=hcut;clear hcut
          generalize fixDown lt a kx dx=dy at PG H
          by_cases hkb:b - kx ≥ 2
          · have hkbz:(b:Int) - (kx:Int) ≥ 2:=by omega
            have FU:Hid (fixUp lt b kx dy=shiftUp lt b (kx+1) dy):=by show _=_;unfold fixUp;rw [if_pos hkb]
            go_wp2
            go_loopg [10] (b - (kx+1)) (fun gx s10 wr=>∃ (j:Nat) (dj:Array α),s10 = .int .i64 j∧kx+1≤j∧j≤b∧b - j≤gx∧St enc k g lb sf sb blk off n w0 [blk] W W.heap.size dj wr∧Hid (shiftUp lt b j dj=fixUp lt b kx dy))
            case atStart=>exact ⟨kx+1,dy,by go_num,Nat.le_refl _,by omega,Nat.le_refl _,H,show Hid _ from FU.out.symm⟩
            case round =>
              clear H;obtain ⟨j,dj,rfl,hj1,hj2,hj3,H,HD⟩:=hrel;have c0:=H.c0;by_cases hj:j<b
              · have hjz:(j:Int)<(b:Int):=by omega
                have hl:=H.less C (x:=j) (y:=(j:Int) - 1) j (j - 1) rfl (by omega) (by omega) (by omega)
                cases hlv:lt dj[j]! dj[j - 1]! with
                | true =>
                  rw [hlv] at hl
                  go_wp2_with (go_at_fn g;refine hl.mono ?_;rintro e w' ⟨rfl,H'⟩;have c1':=H'.c1;obtain ⟨w2,hs,H2⟩:=H'.swap C (x:=j) (y:=(j:Int) - 1) j (j - 1) rfl (by omega) (by omega) (by omega))
                  go_roundg (b - (j+1))
                  case measure=>omega
                  case rel=>exact ⟨j+1,_,by go_num,by omega,by omega,Nat.le_refl _,H2,show Hid _ from by rw [← HD.out,shiftUp_go lt b j dj hj hlv];exact rfl⟩
                | false =>
                  rw [hlv] at hl;have HE:Hid (fixUp lt b kx dy=dj):=HD.out.symm.trans (shiftUp_stop lt b j dj (.inr hlv))
                  go_wp2_with (go_at_fn g;refine hl.mono ?_;rintro e w' ⟨rfl,H'⟩)
                  go_roundg (5 - (s+1))
                  case measure=>omega
                  case rel=>exact ⟨kx,s+1,_,rfl,by go_num,by omega,Nat.le_refl _,by omega,by omega,H',show Hid _ from by rw [← HO.out,PG.out,HE.out];exact rfl⟩
              · have hjz:¬ ((j:Int)<(b:Int)):=by omega
                have HE:Hid (fixUp lt b kx dy=dj):=HD.out.symm.trans (shiftUp_stop lt b j dj (.inl hj));go_wp2
                go_roundg (5 - (s+1))
                case measure=>omega
                case rel=>exact ⟨kx,s+1,_,rfl,by go_num,by omega,Nat.le_refl _,by omega,by omega,H,show Hid _ from by rw [← HO.out,PG.out,HE.out];exact rfl⟩
          · have hkbz:¬ ((b:Int) - (kx:Int) ≥ 2):=by omega
            have HE:Hid (fixUp lt b kx dy=dy):=by show _=_;unfold fixUp;rw [if_neg hkb]
            go_wp2
            go_roundg (5 - (s+1))
            case measure=>omega
            case rel=>exact ⟨kx,s+1,_,rfl,by go_num,by omega,Nat.le_refl _,by omega,by omega,H,show Hid _ from by rw [← HO.out,PG.out,HE.out];exact rfl⟩
    · have hsz5:¬ ((s:Int)<5):=by omega
      have hs4:s=5:=by omega
      have HB:Hid (s=5):=hs4;clear hs4;go_wp2;go_ret
      have e:=HO.out;rw [HB.out,pi_end] at e;exact H.doneAs (by rw [← e]) (by (rw [← e])<;>rfl)
section
variable {P:Program} {ρ:Ren} {α:Type} [Inhabited α] {enc:α→List Value} {k:Nat} {lt:α→α→Bool} {g:Nat} {lb:Array Value} {sf:Nat} {sb:Array Value} {blk off n:Nat} {w0 W W0 w':World} {d dk dx:Array α} {B a b:Nat}
theorem St.world (C:Cx P enc k lt g lb sf sb blk off n w0) (H:St enc k g lb sf sb blk off n w0 [blk] W0 B dk W) (hz:dx.size=n) (h:∃ m os,w'=sortWorldK enc k W blk off m dx os):St enc k g lb sf sb blk off n w0 [blk] W0 B dx w':=by
  obtain ⟨m,os,rfl⟩:=h;exact H.step (H.s.on C.hblk m dx os (hz.trans H.z.symm)) hz (Kp.sortWorldK m os (by simp))
def Pq (enc:α→List Value) (k:Nat) (lt:α→α→Bool) (blk off:Nat) (w0:World) (a b:Nat) (d:Array α) (W:World) (e:Ending) (w':World):Prop :=
  e = .returned (.tuple #[])∧∃ d',PermIn a b d d'∧SortedIn lt a b d'∧SWK enc k w0 blk off d' w'∧Kp [blk] W w'
theorem St.pq (H:St enc k g lb sf sb blk off n w0 [blk] W0 B dk W) (hp:PermIn a b d dk) (hs:SortedIn lt a b dk):Pq enc k lt blk off w0 a b d W0 (.returned (.tuple #[])) W:=⟨rfl,dk,hp,hs,H.s,H.p⟩
set_option maxHeartbeats 12800000 in
set_option maxRecDepth 1000000 in
theorem pdqs (L : LaysGg.n14 P ρ) (C:Cx P enc k lt g lb sf sb blk off n w0) (hO:SWO lt):∀ (N a b limit:Nat) (d:Array α) (W:World),b - a<N→SWK enc k w0 blk off d W→d.size=n→a≤b→b≤n→limit<4611686018427387904→Below lt a b d →
    Calls P (ρ.f 14) #[data g lb sf sb, .int .i64 a, .int .i64 b, .int .i64 limit] W (Pq enc k lt blk off w0 a b d W):=by
  have mixed:=L.mixed;have t0:=L.t0;have a0:=L.a0;have z0:=L.z0;have v0:=L.v0;have t3:=L.t3;have a3:=L.a3;have z3:=L.z3;have v3:=L.v3;have t4:=L.t4;have a4:=L.a4;have z4:=L.z4;have v4:=L.v4;have t26:=L.t26;have a26:=L.a26;have z75:=L.z26;have v26:=L.v26;have t37:=L.t37;have a37:=L.a37;have z37:=L.z37;have v37:=L.v37;have t44:=L.t44;have a44:=L.a44;have z44:=L.z44;have v44:=L.v44;have t5:=L.t5;have a5:=L.a5;have z5:=L.z5;have v5:=L.v5;have t9:=L.t9;have a9:=L.a9;have z9:=L.z9;have v9:=L.v9;have t41:=L.t41;have a41:=L.a41;have z41:=L.z41;have v41:=L.v41;have t49:=L.t49;have a49:=L.a49;have z49:=L.z49;have v49:=L.v49;have t51:=L.t51;have a51:=L.a51;have z51:=L.z51;have v51:=L.v51;have t53:=L.t53;have a53:=L.a53;have z53:=L.z53;have v53:=L.v53;have t64:=L.t64;have a64:=L.a64;have z64:=L.z64;have v64:=L.v64;have t67:=L.t67;have a67:=L.a67;have z67:=L.z67;have v67:=L.v67
  have u44:=run_underlying L.t44;have eg:=C.eg;have e26:∀ args w,(callFunc (ρ.f 26) args).run P w = .ok (.enter (ρ.f 26) args) w:=enters_of L.f26 (by kernel_rfl) rfl;have e27:∀ args w,(callFunc (ρ.f 27) args).run P w = .ok (.enter (ρ.f 27) args) w:=enters_of L.f27 (by kernel_rfl) rfl;have e28:∀ args w,(callFunc (ρ.f 28) args).run P w = .ok (.enter (ρ.f 28) args) w:=enters_of L.f28 (by kernel_rfl) rfl;have e29:∀ args w,(callFunc (ρ.f 29) args).run P w = .ok (.enter (ρ.f 29) args) w:=enters_of L.f29 (by kernel_rfl) rfl;have e30:∀ args w,(callFunc (ρ.f 30) args).run P w = .ok (.enter (ρ.f 30) args) w:=enters_of L.f30 (by kernel_rfl) rfl;have e31:∀ args w,(callFunc (ρ.f 31) args).run P w = .ok (.enter (ρ.f 31) args) w:=enters_of L.f31 (by kernel_rfl) rfl;have e32:∀ args w,(callFunc (ρ.f 32) args).run P w = .ok (.enter (ρ.f 32) args) w:=enters_of L.f32 (by kernel_rfl) rfl;have e33:∀ args w,(callFunc (ρ.f 33) args).run P w = .ok (.enter (ρ.f 33) args) w:=enters_of L.f33 (by kernel_rfl) rfl
  have e14:∀ args w,(callFunc (ρ.f 14) args).run P w = .ok (.enter (ρ.f 14) args) w:=enters_of L.f14 (by kernel_rfl) rfl;have hsz:=C.hsz;intro N
  induction N with
  | zero=>intro _ _ _ _ _ h;exact absurd h (Nat.not_lt_zero _)
  | succ N ih =>
    intro a b limit d W hN hS hz hab hb hlimit hBel;have IH:Aside _:=ih;clear ih;have H:=St.start C (ρ.t 44) hS hz
    go_enter L.f14,BodyGg.n14_ntmps ρ
    go_wp2
    go_loopg [1,2,3,8,9] (b - a) (fun kx s1 s2 s3 s8 s9 wr=>∃ (a' b' lim:Nat) (wb wp:Bool) (dk:Array α),s1 = .int .i64 a'∧s2 = .int .i64 b'∧s3 = .int .i64 lim∧s8 = .bool wb∧s9 = .bool wp∧a'≤b'∧b'≤n∧b' - a'≤kx∧kx≤b - a∧lim≤limit ∧
      Below lt a' b' dk∧St enc k g lb sf sb blk off n w0 [blk] W W.heap.size dk wr∧Aside (∀ R,PermIn a' b' dk R→SortedIn lt a' b' R→PermIn a b d R∧SortedIn lt a b R))
    case atStart=>exact ⟨a,b,limit,true,true,d,rfl,rfl,rfl,rfl,rfl,hab,hb,Nat.le_refl _,Nat.le_refl _,Nat.le_refl _,hBel,H,fun R h1 h2=>⟨h1,h2⟩⟩
    case round =>
      clear H hBel hS;obtain ⟨a',b',lim,wb,wp,dk,rfl,rfl,rfl,rfl,rfl,hab',hb',hkx,hkN,hlim,hBel,H,HK⟩:=hrel;have c0:=H.c0;have c1:=H.c1;have hkz:=H.z;by_cases h12:b' - a'≤12
      · have h12z:(b':Int) - (a':Int)≤12:=by omega
        have hi:=insertionSort_holds hO dk a' b' hab' (by omega);have hc:=H.call (hi.1.1.trans H.z) (insertion (ρ:=ρ) { L with } C a' b' H.s H.z hab' hb')
        go_wp2_with (go_at_fn (ρ.f 26);refine hc.mono ?_;rintro e w1 ⟨rfl,H'⟩)
        (try simp only [Exit.inBlock,Exit.then]);refine bodyPost_ret (results_none rfl _ _ _) rfl ?_
        exact H'.pq (HK.out _ hi.1 hi.2).1 (HK.out _ hi.1 hi.2).2
      · have h12z : ¬ ((b' : Int) - (a':Int)≤12):=by omega
        by_cases hl0:lim=0
        · subst hl0;have hi:=heapSort_holds hO dk a' b' hab' (by omega);have hc:=H.call (hi.1.1.trans H.z) (heap (ρ:=ρ) { L with } C a' b' H.s H.z hab' hb')
          go_wp2_with (go_at_fn (ρ.f 27);refine hc.mono ?_;rintro e w1 ⟨rfl,H'⟩)
          (try simp only [Exit.inBlock,Exit.then]);refine bodyPost_ret (results_none rfl _ _ _) rfl ?_
          exact H'.pq (HK.out _ hi.1 hi.2).1 (HK.out _ hi.1 hi.2).2
        · have hl0z : ¬ ((lim:Int)=0):=by omega
          go_upto_if 35 with fail
          go_cut [3] from 19 (fun s3 wc=>∃ (l1:Nat) (dx:Array α),s3 = .int .i64 l1∧l1≤lim∧PermIn a' b' dk dx∧St enc k g lb sf sb blk off n w0 [blk] W W.heap.size dx wc)
          case first =>
            cases wb
            · have hp:=breakPatterns_holds dk a' b' hab' (by omega);have hc:=Any.breakPatterns_func_cells_w (P:=P) (ρ:=ρ) { L with } enc k C.hk (.func g) #[] lb sf sb blk off a' b' dk wr (by rw [hkz];exact C.swap) (H.holds C) (H.s.lt C.hblk) hab' (by omega) (by omega)
              go_wp2_with (go_at_fn (ρ.f 28);refine hc.mono ?_;rintro e w1 ⟨rfl,hw1⟩)
              go_meet
              exact ⟨lim - 1,_,by congr 1;omega,by omega,hp,H.world C (hp.1.trans hkz) hw1⟩
            · go_wp2_with fail
              go_meet
              exact ⟨lim,dk,rfl,Nat.le_refl _,permIn_refl _ _ _,H⟩
          case rest =>
            clear H c0 c1;obtain ⟨l1,dx,rfl,hl1,P1,H⟩:=hcut;have c0:=H.c0;have c1:=H.c1;have hc:=pivot (ρ:=ρ) { L with } C a' b' H.s H.z (by omega) hb'
            go_upto_if 50 with (go_at_fn (ρ.f 29);refine hc.mono ?_;rintro e w2 ⟨p,h,rfl,hp1,hp2,hh,S2,K2⟩)
            have H2:=H.step S2 H.z K2;clear H c0 c1 hc S2 K2;have c0:=H2.c0;have c1:=H2.c1
            go_cut [11,12] from 19 (fun s11 s12 wc=>∃ (p':Nat) (h':Int) (dy:Array α),s11 = .int .i64 p'∧s12 = .int .i64 h'∧a'≤p'∧p'<b'∧PermIn a' b' dx dy∧St enc k g lb sf sb blk off n w0 [blk] W W.heap.size dy wc)
            case first =>
              have hdz:=H2.z;by_cases h2:h=2
              · subst h2;have hp:=reverseRange_holds dx a' b' hab' (by omega);have hr:=Any.reverseRange_func_cells_w (P:=P) (ρ:=ρ) { L with } enc k C.hk (.func g) #[] lb sf sb blk off a' b' dx w2 (by rw [hdz];exact C.swap) (H2.holds C) (H2.s.lt C.hblk) hab' (by omega) (by omega)
                go_wp2_with (go_at_fn (ρ.f 30);refine hr.mono ?_;rintro e w3 ⟨rfl,hw3⟩)
                go_meet
                exact ⟨b' - 1 - (p - a'),1,_,by congr 1;omega,rfl,by omega,by omega,hp,H2.world C (hp.1.trans hdz) hw3⟩
              · go_wp2_with fail
                go_meet
                exact ⟨p,h,dx,rfl,rfl,hp1,hp2,permIn_refl _ _ _,H2⟩
            case rest =>
              clear H2 c0 c1 hh hp1 hp2;obtain ⟨q,h',dy,rfl,rfl,hp1,hp2,P2,H⟩:=hcut;have c0:=H.c0;have c1:=H.c1
              go_upto_region 16 with fail
              go_cut [12,68] from 19 (fun s12 s68 wx=>∃ v:Bool,s12 = .int .i64 h'∧s68 = .bool v∧wx=wc)
              case first =>
                cases wb<;>cases wp<;>by_cases h1:h'=1 <;>
                  (go_wp2_with fail
                   go_meet
                   exact ⟨_,rfl,rfl,rfl⟩)
              case rest =>
                obtain ⟨v,rfl,rfl,rfl⟩:=hcut
                go_upto_if 68 with fail
                go_cut [] from 19 (fun wx=>∃ dz,PermIn a' b' dy dz∧St enc k g lb sf sb blk off n w0 [blk] W W.heap.size dz wx)
                case first =>
                  cases v
                  · go_wp2_with fail
                    go_meet
                    exact ⟨dy,permIn_refl _ _ _,H⟩
                  · have hyz:=H.z;have B2:=(hBel.perm (by omega) P1).perm (by have:=P1.1;omega) P2;have hi:=partialInsertionSort_holds hO dy a' b' (by omega) (by omega) B2;have hc:=H.call (hi.1.1.trans H.z) (partial_ (ρ:=ρ) { L with } C a' b' H.s H.z (by omega) hb')
                    cases hv:(Sort.partialInsertionSort lt dy a' b').2 with
                    | false =>
                      rw [hv] at hc
                      go_wp2_with (go_at_fn (ρ.f 31);refine hc.mono ?_;rintro e w4 ⟨rfl,H'⟩)
                      go_meet
                      exact ⟨_,hi.1,H'⟩
                    | true =>
                      rw [hv] at hc
                      go_wp2_with (go_at_fn (ρ.f 31);refine hc.mono ?_;rintro e w4 ⟨rfl,H'⟩)
                      (try simp only [Exit.inBlock,Exit.then]);refine bodyPost_ret (results_none rfl _ _ _) rfl ?_
                      have hR:=HK.out _ (permIn_trans _ _ _ _ _ (permIn_trans _ _ _ _ _ P1 P2) hi.1) (hi.2 hv);exact H'.pq hR.1 hR.2
                case rest =>
                  clear H c0 c1;obtain ⟨dz,P3,H⟩:=hcut;have c0:=H.c0;have c1:=H.c1;have hzz:=H.z;have P:=permIn_trans _ _ _ _ _ (permIn_trans _ _ _ _ _ P1 P2) P3;have B3:Below lt a' b' dz:=hBel.perm (by omega) P;clear P1 P2 P3 hBel;have HK:Aside (∀ R,PermIn a' b' dz R→SortedIn lt a' b' R→PermIn a b d R∧SortedIn lt a b R):=fun R h1 h2=>HK.out R (permIn_trans _ _ _ _ _ P h1) h2;clear P
                  go_upto_region 18 with fail
                  go_cut [83] from 19 (fun s83 wx=>∃ v:Bool,s83 = .bool v∧Aside (v=true→0<a'∧lt dz[a' - 1]! dz[q]! = false)∧St enc k g lb sf sb blk off n w0 [blk] W W.heap.size dz wx)
                  case first =>
                    rcases Nat.eq_zero_or_pos a' with ha0 | ha0
                    · have ha0z:¬ ((a':Int) > 0):=by omega
                      have HA:Hid (a'=0):=ha0;clear ha0
                      go_wp2_with fail
                      go_meet
                      exact ⟨false,rfl,fun h=>(by cases h),H⟩
                    · have ha0z:(a':Int) > 0:=by omega
                      have hl:=H.less C (x:=(a':Int) - 1) (y:=q) (a' - 1) q (by omega) rfl (by omega) (by omega)
                      cases hlv:lt dz[a' - 1]! dz[q]! with
                      | true =>
                        rw [hlv] at hl
                        go_wp2_with (go_at_fn g;refine hl.mono ?_;rintro e w' ⟨rfl,H'⟩)
                        go_meet
                        exact ⟨false,rfl,fun h=>(by cases h),H'⟩
                      | false =>
                        rw [hlv] at hl
                        go_wp2_with (go_at_fn g;refine hl.mono ?_;rintro e w' ⟨rfl,H'⟩)
                        go_meet
                        exact ⟨true,rfl,fun _=>⟨ha0,hlv⟩,H'⟩
                  case rest =>
                    clear H c0 c1;obtain ⟨v,rfl,HV,H⟩:=hcut;have c0:=H.c0;have c1:=H.c1;cases v
                    · obtain ⟨mid,ap,d4,hx⟩:∃ mid ap d4,partition lt dz a' b' q=(mid,ap,d4):=⟨_,_,_,rfl⟩;obtain ⟨r1,r2,r3,r4,r5,r6,r7⟩:=round_part hO (partition_holds lt) hp1 hp2 (show b'≤dz.size by omega) B3 hx;have hc:=part (ρ:=ρ) { L with } C a' b' q H.s H.z hp1 hp2 hb';rw [hx] at hc;have hc:=H.call (r3.trans H.z) hc;simp only [] at hc;clear hx;have HL:Aside _:=r6;have HR:Aside _:=r7;clear r6 r7
                      go_upto_if 109 with (go_at_fn (ρ.f 33);refine hc.mono ?_;rintro e w7 ⟨rfl,H7⟩)
                      clear H c0 c1 hc;have c0:=H7.c0;have c1:=H7.c1;by_cases h4:mid - a'<b' - mid
                      · have h4z:(mid:Int) - (a':Int)<(b':Int) - (mid:Int):=by omega
                        have hih:=IH.out a' mid l1 d4 w7 (by omega) H7.s H7.z r1 (by omega) (by omega) r4
                        go_wp2_with (go_at_fn (ρ.f 14);refine hih.mono ?_;rintro e w8 ⟨rfl,dL,pL,sL,S8,K8⟩)
                        go_roundg (b' - (mid+1))
                        case measure=>omega
                        case rel =>
                          have hG:=HL.out dL pL sL;exact ⟨mid+1,b',l1,_,ap,dL,by go_num,rfl,rfl,rfl,rfl,by omega,hb',Nat.le_refl _,by omega,by omega,hG.1,H7.step S8 (pL.1.trans H7.z) K8,fun R h1 h2=>HK.out R (hG.2 R h1 h2).1 (hG.2 R h1 h2).2⟩
                      · have h4z:¬ ((mid:Int) - (a':Int)<(b':Int) - (mid:Int)):=by omega
                        have hih:=IH.out (mid+1) b' l1 d4 w7 (by omega) H7.s H7.z (by omega) hb' (by omega) r5;rw [show ((mid+1:Nat):Int)=(mid:Int)+1 by omega] at hih
                        go_wp2_with (go_at_fn (ρ.f 14);refine hih.mono ?_;rintro e w8 ⟨rfl,dL,pL,sL,S8,K8⟩)
                        go_roundg (mid - a')
                        case measure=>omega
                        case rel =>
                          have hG:=HR.out dL pL sL;exact ⟨a',mid,l1,_,ap,dL,rfl,rfl,rfl,rfl,rfl,r1,by omega,Nat.le_refl _,by omega,by omega,hG.1,H7.step S8 (pL.1.trans H7.z) K8,fun R h1 h2=>HK.out R (hG.2 R h1 h2).1 (hG.2 R h1 h2).2⟩
                    · obtain ⟨hv1,hv2⟩:=HV.out rfl;obtain ⟨mid,d4,hx⟩:∃ mid d4,partitionEqual lt dz a' b' q=(mid,d4):=⟨_,_,rfl⟩;obtain ⟨r1,r2,r3,r4,r5⟩:=round_eq hO (partitionEqual_holds lt) hv1 hp1 hp2 (show b'≤dz.size by omega) B3 hv2 hx;have hc:=parteq (ρ:=ρ) { L with } C a' b' q H.s H.z hp1 hp2 hb';rw [hx] at hc;have hc:=H.call (r3.trans H.z) hc;simp only [] at hc;clear hx hv2;have HR:Aside _:=r5;clear r5
                      go_wp2_with (go_at_fn (ρ.f 32);refine hc.mono ?_;rintro e w7 ⟨rfl,H7⟩)
                      go_roundg (b' - mid)
                      case measure=>omega
                      case rel =>
                        exact ⟨mid,b',l1,wb,wp,d4,rfl,rfl,rfl,rfl,rfl,r2,hb',Nat.le_refl _,by omega,by omega,r4,H7,fun R h1 h2=>HK.out R (HR.out R h1 h2).1 (HR.out R h1 h2).2⟩
end
end Go.Proofs.YtgklmafdbgnohaaGreat.Sg
end
section
namespace Go.Proofs
open Go.Shelf
def Tryz.slice6_ren:Go.Shelf.Ren:=⟨fun | 6=>37 | 10=>70 | 11=>71 | 12=>72 | 13=>73 | 14=>74 | 24=>103 | 25=>104 | 26=>105 | 27=>106 | 28=>107 | 29=>108 | 30=>109 | 31=>110 | 32=>111 | 33=>112 | 34=>125 | 35=>126 | 36=>127 | 37=>128 | 38=>129 | 39=>143 | n=>n,fun | 20=>20 | 26=>82 | 35=>118 | 0=>0 | 37=>120 | 3=>3 | 41=>124 | 44=>127 | 49=>148 | 51=>150 | 4=>4 | 54=>153 | 53=>152 | 58=>93 | 5=>5 | 9=>9 | 60=>169 | 64=>173 | 66=>188 | 67=>189 | 17=>17 | 32=>115 | 33=>116 | 82=>209 | 12=>12 | 75=>202 | 76=>203 | 77=>204 | 78=>205 | 79=>206 | 80=>207 | n=>n,fun | n=>n⟩
theorem Tryz.slice6:Go.Proofs.LaysGg.n6 Tryz.prog Tryz.slice6_ren:={
  mixed:=by kernel_rfl,
  f6:=Tryz.func37.trans (congrArg some (by kernel_rfl)),
  f10:=Tryz.func70.trans (congrArg some (by kernel_rfl)),
  f11:=Tryz.func71.trans (congrArg some (by kernel_rfl)),
  f12:=Tryz.func72.trans (congrArg some (by kernel_rfl)),
  f13:=Tryz.func73.trans (congrArg some (by kernel_rfl)),
  f14:=Tryz.func74.trans (congrArg some (by kernel_rfl)),
  f24:=Tryz.func103.trans (congrArg some (by kernel_rfl)),
  f25:=Tryz.func104.trans (congrArg some (by kernel_rfl)),
  f26:=Tryz.func105.trans (congrArg some (by kernel_rfl)),
  f27:=Tryz.func106.trans (congrArg some (by kernel_rfl)),
  f28:=Tryz.func107.trans (congrArg some (by kernel_rfl)),
  f29:=Tryz.func108.trans (congrArg some (by kernel_rfl)),
  f30:=Tryz.func109.trans (congrArg some (by kernel_rfl)),
  f31:=Tryz.func110.trans (congrArg some (by kernel_rfl)),
  f32:=Tryz.func111.trans (congrArg some (by kernel_rfl)),
  f33:=Tryz.func112.trans (congrArg some (by kernel_rfl)),
  f34:=Tryz.func125.trans (congrArg some (by kernel_rfl)),
  f35:=Tryz.func126.trans (congrArg some (by kernel_rfl)),
  f36:=Tryz.func127.trans (congrArg some (by kernel_rfl)),
  f37:=Tryz.func128.trans (congrArg some (by kernel_rfl)),
  f38:=Tryz.func129.trans (congrArg some (by kernel_rfl)),
  f39:=Tryz.func143.trans (congrArg some (by kernel_rfl)),
  t0:=Tryz.underlying0,
  a0:=Tryz.isAgg0,
  z0:=Tryz.sizeOf0,
  v0:=Tryz.zeroValue0,
  i0:=by kernel_rfl,
  t3:=Tryz.underlying3,
  a3:=Tryz.isAgg3,
  z3:=Tryz.sizeOf3,
  v3:=Tryz.zeroValue3,
  i3:=by kernel_rfl,
  t4:=Tryz.underlying4,
  a4:=Tryz.isAgg4,
  z4:=Tryz.sizeOf4,
  v4:=Tryz.zeroValue4,
  i4:=by kernel_rfl,
  t5:=Tryz.underlying5,
  a5:=Tryz.isAgg5,
  z5:=Tryz.sizeOf5,
  v5:=Tryz.zeroValue5,
  i5:=by kernel_rfl,
  t9:=Tryz.underlying9,
  a9:=Tryz.isAgg9,
  z9:=Tryz.sizeOf9,
  v9:=Tryz.zeroValue9,
  i9:=by kernel_rfl,
  t12:=Tryz.underlying12,
  a12:=Tryz.isAgg12,
  z12:=Tryz.sizeOf12,
  v12:=Tryz.zeroValue12,
  i12:=by kernel_rfl,
  t17:=Tryz.underlying17,
  a17:=Tryz.isAgg17,
  z17:=Tryz.sizeOf17,
  v17:=Tryz.zeroValue17,
  i17:=by kernel_rfl,
  t20:=Tryz.underlying20,
  a20:=Tryz.isAgg20,
  z20:=Tryz.sizeOf20,
  v20:=Tryz.zeroValue20,
  i20:=by kernel_rfl,
  t26:=Tryz.underlying82,
  a26:=Tryz.isAgg82,
  z26:=Tryz.sizeOf82,
  v26:=Tryz.zeroValue82,
  i26:=by kernel_rfl,
  t32:=Tryz.underlying115,
  a32:=Tryz.isAgg115,
  z32:=Tryz.sizeOf115,
  v32:=Tryz.zeroValue115,
  i32:=by kernel_rfl,
  t33:=Tryz.underlying116,
  a33:=Tryz.isAgg116,
  z33:=Tryz.sizeOf116,
  v33:=Tryz.zeroValue116,
  i33:=by kernel_rfl,
  t35:=Tryz.underlying118,
  a35:=Tryz.isAgg118,
  z35:=Tryz.sizeOf118,
  v35:=Tryz.zeroValue118,
  i35:=by kernel_rfl,
  t37:=Tryz.underlying120,
  a37:=Tryz.isAgg120,
  z37:=Tryz.sizeOf120,
  v37:=Tryz.zeroValue120,
  i37:=by kernel_rfl,
  t41:=Tryz.underlying124,
  a41:=Tryz.isAgg124,
  z41:=Tryz.sizeOf124,
  v41:=Tryz.zeroValue124,
  i41:=by kernel_rfl,
  t44:=Tryz.underlying127,
  a44:=Tryz.isAgg127,
  z44:=Tryz.sizeOf127,
  v44:=Tryz.zeroValue127,
  i44:=by kernel_rfl,
  t49:=Tryz.underlying148,
  a49:=Tryz.isAgg148,
  z49:=Tryz.sizeOf148,
  v49:=Tryz.zeroValue148,
  i49:=by kernel_rfl,
  t51:=Tryz.underlying150,
  a51:=Tryz.isAgg150,
  z51:=Tryz.sizeOf150,
  v51:=Tryz.zeroValue150,
  i51:=by kernel_rfl,
  t53:=Tryz.underlying152,
  a53:=Tryz.isAgg152,
  z53:=Tryz.sizeOf152,
  v53:=Tryz.zeroValue152,
  i53:=by kernel_rfl,
  t54:=Tryz.underlying153,
  a54:=Tryz.isAgg153,
  z54:=Tryz.sizeOf153,
  v54:=Tryz.zeroValue153,
  i54:=by kernel_rfl,
  t58:=Tryz.underlying93,
  a58:=Tryz.isAgg93,
  z58:=Tryz.sizeOf93,
  v58:=Tryz.zeroValue93,
  i58:=by kernel_rfl,
  t60:=Tryz.underlying169,
  a60:=Tryz.isAgg169,
  z60:=Tryz.sizeOf169,
  v60:=Tryz.zeroValue169,
  i60:=by kernel_rfl,
  t64:=Tryz.underlying173,
  a64:=Tryz.isAgg173,
  z64:=Tryz.sizeOf173,
  v64:=Tryz.zeroValue173,
  i64:=by kernel_rfl,
  t66:=Tryz.underlying188,
  a66:=Tryz.isAgg188,
  z66:=Tryz.sizeOf188,
  v66:=Tryz.zeroValue188,
  i66:=by kernel_rfl,
  t67:=Tryz.underlying189,
  a67:=Tryz.isAgg189,
  z67:=Tryz.sizeOf189,
  v67:=Tryz.zeroValue189,
  i67:=by kernel_rfl,
  t75:=Tryz.underlying202,
  a75:=Tryz.isAgg202,
  z75:=Tryz.sizeOf202,
  v75:=Tryz.zeroValue202,
  i75:=by kernel_rfl,
  t76:=Tryz.underlying203,
  a76:=Tryz.isAgg203,
  z76:=Tryz.sizeOf203,
  v76:=Tryz.zeroValue203,
  i76:=by kernel_rfl,
  t77:=Tryz.underlying204,
  a77:=Tryz.isAgg204,
  z77:=Tryz.sizeOf204,
  v77:=Tryz.zeroValue204,
  i77:=by kernel_rfl,
  t78:=Tryz.underlying205,
  a78:=Tryz.isAgg205,
  z78:=Tryz.sizeOf205,
  v78:=Tryz.zeroValue205,
  i78:=by kernel_rfl,
  t79:=Tryz.underlying206,
  a79:=Tryz.isAgg206,
  z79:=Tryz.sizeOf206,
  v79:=Tryz.zeroValue206,
  i79:=by kernel_rfl,
  t80:=Tryz.underlying207,
  a80:=Tryz.isAgg207,
  z80:=Tryz.sizeOf207,
  v80:=Tryz.zeroValue207,
  i80:=by kernel_rfl,
  t82:=Tryz.underlying209,
  a82:=Tryz.isAgg209,
  z82:=Tryz.sizeOf209,
  v82:=Tryz.zeroValue209,
  i82:=by kernel_rfl }
end Go.Proofs
namespace Go.Proofs.YtgklmafdbgnohaaGreat.Sl
open Go.Shelf Go.RowKit Go.Lib Go.Sort Go.Proofs Go.Proofs.YtgklmafdbgnohaaGreat.Sg
section
variable {α:Type}
theorem flat_len (enc:α→List Value) (k:Nat) (hk:∀ x,(enc x).length=k):∀ xs:List α,(xs.flatMap enc).length=xs.length * k
  | []=>by simp
  | x::r=>by rw [List.flatMap_cons,List.length_append,hk,flat_len enc k hk r,List.length_cons,Nat.add_mul];omega
variable [Inhabited α]
theorem flat_at (enc:α→List Value) (k:Nat) (hk:∀ x,(enc x).length=k) (hk0:0<k):∀ (xs:List α) (t:Nat),t<xs.length * k→(xs.flatMap enc)[t]! = (enc xs[t / k]!)[t % k]!
  | [],t,h=>by simp at h
  | x :: r,t,h=>by
    have hx:=hk x;rw [List.flatMap_cons]
    rcases Nat.lt_or_ge t k with h1 | h1
    · rw [Nat.div_eq_of_lt h1,Nat.mod_eq_of_lt h1];simp only [List.getElem!_eq_getElem?_getD,List.getElem?_append_left (show t<(enc x).length by omega),List.getElem?_cons_zero,Option.getD_some]
    · have ih:=flat_at enc k hk hk0 r (t - k) (by simp only [List.length_cons,Nat.add_mul] at h;omega);obtain ⟨q,e1,e2⟩:∃ q,t / k=q+1∧(t - k) / k=q:=⟨(t - k) / k,by rw [Nat.div_eq_sub_div hk0 h1],rfl⟩;have e3:t % k=(t - k) % k:=Nat.mod_eq_sub_mod h1;rw [e1,e3];rw [e2] at ih;simp only [List.getElem!_eq_getElem?_getD,List.getElem?_append_right (show (enc x).length≤t by omega),List.getElem?_cons_succ,hx] at ih ⊢;exact ih
theorem flatK_list (enc:α→List Value) (k:Nat) (hk:∀ x,(enc x).length=k) (hk0:0<k) (xs:List α):flatK enc k xs.toArray=(xs.flatMap enc).toArray:=by
  refine ext_get! (by simp [flat_len enc k hk]) fun t ht=>?_;have ht':t<xs.length * k:=by simpa using ht
  rw [get_flatK _ _ _ _ (by simpa using ht')];have:=flat_at enc k hk hk0 xs t ht';simp only [List.getElem!_toArray];exact this.symm
theorem perm_of {xs:List α} {d':Array α} (h:PermIn 0 xs.toArray.size xs.toArray d'):d'.toList.Perm xs:=by
  obtain ⟨h1,_,h2⟩:=h;have e:d'.extract 0 xs.toArray.size=d':=by rw [← h1];simp
  rw [e] at h2
  simpa using h2
theorem sorted_of {lt:α→α→Bool} {n:Nat} {d':Array α} (hn:d'.size=n) (h:SortedIn lt 0 n d'):d'.toList.Pairwise fun a b=>lt b a=false:=by
  refine List.pairwise_iff_getElem.2 fun i j hi hj hij=>?_;have hi':i<d'.size:=by simpa using hi
  have hj':j<d'.size:=by simpa using hj
  have:=h i j (Nat.zero_le _) hij (by omega);rw [getElem!_pos d' i hi',getElem!_pos d' j hj'] at this
  simpa using this
end
section
variable {w:World} {g n cap base e:Nat} {os:Array Obj} {cur:Array Value}
theorem holds_flat {vs:List Value} (hb:w.heap[g]? = some (.cells cur e (0,0))) (ht:cur.toList.take vs.length=vs):Holds id w g 0 vs.toArray:=by
  intro j hj;have hj':j<vs.length:=by simpa using hj
  refine ⟨?_,by simp [World.frozen?,hb]⟩;have h1:(cur.toList.take vs.length)[j]? = vs[j]? := by rw [ht]
  rw [List.getElem?_take_of_lt hj'] at h1;simp only [World.cell?,hb,Nat.zero_add];simp only [Option.isSome_none,Bool.false_eq_true,if_false];rw [← Array.getElem?_toList,h1];simp [hj']
theorem heap_put {fr:Nat × Nat} (d:Array Value) (hb:w.heap[g]? = some (.cells cur e fr)):(grow (putRow id (Sort.ahead w n) g 0 d) os).heap[g]? = some (.cells (putCells id 0 d cur) e fr):=by
  have hg:g<w.heap.size:=(Array.getElem?_eq_some_iff.1 hb).1;rw [heap_grow_old _ _ (by simpa using hg)];simp [putRow,mapBlock,Sort.ahead,Array.getElem?_modify,hb,onCells]
theorem grown_put (d:Array Value):w.grownBy (grow (putRow id (Sort.ahead w n) g 0 d) os) (some g):=by
  refine ⟨rfl,rfl,rfl,by simp,fun k hk hne=>?_⟩;rw [heap_grow_old _ _ (by simpa using hk)];have:g≠k:=fun e=>hne (by rw [e]);simp [putRow,mapBlock,Sort.ahead,Array.getElem?_modify,this]
theorem take_put (cur:Array Value) (ts:List Value) (h:ts.length≤cur.size):(putCells id 0 ts.toArray cur).toList.take ts.length=ts:=by
  apply List.ext_getElem?;intro j;by_cases hj:j<ts.length
  · rw [List.getElem?_take_of_lt hj,Array.getElem?_toList];simp [putCells,hj,show j<cur.size by omega]
  · rw [List.getElem?_take_eq_none (by omega),List.getElem?_eq_none (by omega)]
theorem grown_grow (w:World) (os:Array Obj):w.grownBy (grow w os) none:=⟨rfl,rfl,rfl,by simp,fun k hk _=>heap_grow_old _ _ hk⟩
end
theorem sort_row {α:Type} [Inhabited α] (t e:TypeId) (i ie:TypeInfo) (hi:Tryz.prog.info? t=some i) (hd:i.desc = .slice e) (hpk:Tryz.prog.packed t=false) (hie:Tryz.prog.info? e=some ie) (ke:Nat) (hke:∀ w,(Extern.Rtype.kind e).run Tryz.prog w = .ok ke w)
    (hp1:ie.hasPointers=true) (hp2:(ie.bytes==8)=false) (hp3:(ke==24)=false)
    (enc:α→List Value) (k:Nat) (hk:∀ x,(enc x).length=k) (hk0:0<k) (hs1:ie.size=k) (hagg:∀ w,(isAgg e).run Tryz.prog w = .ok true w) (h1:∀ x,∀ v∈enc x,v.oneCell'=true) (lt:α→α→Bool) (hO:SWO lt) (gl:Nat) (lb:Array Value)
    (eg:∀ args w,(callFunc gl args).run Tryz.prog w = .ok (.enter gl args) w) {w:World} {base g cap:Nat} {xs:List α} (hl:xs.length≤1000000000)
    (ho:w.ownsRow base e k (.slice (some ⟨g,0,none⟩) xs.length cap) xs.length (xs.flatMap enc)) (hless:∀ (dk:Array α) (W:World),dk.size=xs.length→SWK enc k w g 0 dk W→∀ i j:Nat,i<xs.length→j<xs.length→Calls Tryz.prog gl (#[.int .i64 i, .int .i64 j]++lb) W fun e w'=>e = .returned (.bool (lt dk[i]! dk[j]!))∧SWK enc k w g 0 dk w'∧Kp [] W w') :
    Calls Tryz.prog 37 #[.iface t (.slice (some ⟨g,0,none⟩) xs.length cap), .func (.func gl) #[] lb] w fun e' w'=>e' = .returned (.tuple #[])∧∃ ys:List α,ys.Perm xs∧(ys.Pairwise fun a b=>lt b a=false) ∧
      w'.ownsRow base e k (.slice (some ⟨g,0,none⟩) xs.length cap) xs.length (ys.flatMap enc)∧w.grownBy w' (some g):=by
  rcases Nat.lt_or_ge xs.length 2 with h2 | h2
  · have hf:∃ f,Tryz.prog.funcs.findIdx? (·.name == "internal/reflectlite" ++ ".Swapper$" ++ toString (swapperK xs.length ie ke))=some f:=by
      rcases Nat.lt_or_ge xs.length 1 with h0 | h0
      · have e0:xs.length=0:=by omega
        rw [e0];exact ⟨94,by kernel_rfl⟩
      · have e1:xs.length=1:=by omega
        rw [e1];exact ⟨95,by kernel_rfl⟩
    obtain ⟨f,hf⟩:=hf;refine (Any.sort_Slice_tiny Tryz.slice6 t e i ie hi hd hpk hie ke hke (some ⟨g,0,none⟩) xs.length cap (by omega) f hf (.func gl) #[] lb w).mono ?_
    rintro e' w' ⟨rfl,os,rfl⟩
    refine ⟨rfl,xs, .refl _,?_,ho.kept (grown_grow w os) (.inr (by simp [Value.ownBlock])),⟨rfl,rfl,rfl,by simp,fun k hk _=>heap_grow_old _ _ hk⟩⟩
    match xs,h2 with
    | [],_=>exact .nil
    | [x],_=>exact List.pairwise_singleton _ _
  · obtain ⟨hlen,h3⟩:=ho
    rcases h3 with ⟨h3,_⟩ | ⟨g',cap',cur,hv,hbase,hb,hn,hcap,hcs,htk⟩
    · cases h3
    cases hv
    have hfl:=flat_len enc k hk xs
    have hH:HoldsK enc k w g 0 xs.toArray:=by
      unfold HoldsK
      rw [flatK_list enc k hk hk0];exact holds_flat hb (by rw [hfl];exact htk)
    have hg:g<w.heap.size:=(Array.getElem?_eq_some_iff.1 hb).1
    have hsk:swapperK xs.toArray.size ie ke=9:=by
      have c:(xs.length==0)=false:=by rw [beq_eq_false_iff_ne];omega
      have d:(xs.length==1)=false:=by rw [beq_eq_false_iff_ne];omega
      simp [swapperK,hp1,hp2,hp3,c,d]
    have hS:Calls Tryz.prog 37 #[.iface t (.slice (some ⟨g,0,none⟩) xs.toArray.size cap), .func (.func gl) #[] lb] w fun e' w'=>e' = .returned (.tuple #[])∧∃ d':Array α,PermIn 0 xs.toArray.size xs.toArray d'∧SortedIn lt 0 xs.toArray.size d'∧SWK enc k w g 0 d' w':=by
      have h2':2≤xs.toArray.size:=by simpa using h2
      have hsz:xs.toArray.size<4611686018427387904:=by simp;omega
      refine Any.sort_Slice_of_pdq Tryz.slice6 t e i ie hi hd hpk hie ke hke _ xs.toArray.size cap hsz 102 (by rw [hsk];kernel_rfl) (.func gl) #[] lb w _ ?_
      have hB:sliceBound Tryz.prog e ie ke (some ⟨g,0,none⟩) xs.toArray.size cap=#[.slice (some ⟨g,0,none⟩) xs.toArray.size cap,typeHandle Tryz.prog e]:=by
        unfold sliceBound;rw [if_neg (swapperK_gt _ _ _ h2')]
      rw [hB];have hlim:Lib.bitLen xs.toArray.size<4611686018427387904:=Nat.lt_of_le_of_lt (Lib.bitLen_le _ 62 (by omega) (by omega)) (by omega)
      have hC:Cx Tryz.prog enc k lt gl lb 102 #[.slice (some ⟨g,0,none⟩) xs.toArray.size cap,typeHandle Tryz.prog e] g 0 xs.toArray.size w :=
        ⟨hk,eg,by simpa using hless,swapSwapsK_of_literal false 102 (fun args W=>run_callFunc_extern Tryz.func102 (by kernel_rfl) (by kernel_rfl) (by kernel_rfl) (e:=Extern.ReflectliteSwapper.swap false) (by kernel_rfl) args W) e ie hie enc k hk hs1 hagg h1 g 0 xs.toArray.size cap,⟨xs.toArray,rfl,hH⟩,hg,hsz⟩
      refine (pdqs (ρ:=_) { Tryz.slice6 with } hC hO (xs.toArray.size+1) 0 xs.toArray.size (Lib.bitLen xs.toArray.size) xs.toArray _ (by omega) (((SWK.start hH).alloc _).alloc _) rfl (Nat.zero_le _) (Nat.le_refl _) hlim (.inl rfl)).mono ?_
      rintro e' w' ⟨rfl,d',hp,hs,hw,_⟩
      exact ⟨rfl,d',hp,hs,hw⟩
    simp only [List.size_toArray] at hS;refine hS.mono ?_
    rintro e' w' ⟨rfl,d',hp,hso,n,os,rfl⟩
    have hsz:d'.size=xs.length:=by simpa using hp.1
    have hfl':=flat_len enc k hk d'.toList;have hdl:d'.toList.length=xs.length:=by rw [← hsz];simp
    rw [hdl] at hfl'
    unfold sortWorldK
    have hpr:putRowK enc k (Sort.ahead w n) g 0 d'=putRow id (Sort.ahead w n) g 0 (d'.toList.flatMap enc).toArray:=by
      unfold putRowK
      rw [← flatK_list enc k hk hk0,Array.toArray_toList]
    rw [hpr];refine ⟨rfl,d'.toList,perm_of (by simpa using hp),sorted_of hsz hso,⟨by rw [hfl'], .inr ⟨g,cap,_,rfl,hbase,heap_put _ hb,hn,hcap,by simp [putCells,hcs],?_⟩⟩,grown_put _⟩;rw [← hfl'];refine take_put _ _ ?_;rw [hfl',hcs];exact Nat.mul_le_mul_right _ hn
end Go.Proofs.YtgklmafdbgnohaaGreat.Sl
end
section
namespace Go.Proofs.YtgklmafdbgnohaaGreat.Il
variable {α:Type}
open Go.RowKit Go.Proofs.YtgklmafdbgnohaaGreatW.PrintWords Go.Proofs.YtgklmafdbgnohaaGreatW.PrintLast Go.Proofs.YtgklmafdbgnohaaGreatW.PrintMore Go.Proofs.YtgklmafdbgnohaaGreat.Z Go.Proofs.YtgklmafdbgnohaaGreat.PA Go.Proofs.YtgklmafdbgnohaaGreat.Ik Go.Proofs.YtgklmafdbgnohaaGreat.Sg Go.Sort
theorem kp_new {l:List Nat} {W w':World} {b o:Nat} (h:Kp l W w') (hb:W.heap.size≤b) (v:Value):Kp l W (w'.setCell ⟨b,o,none⟩ v):=by
  refine ⟨by simpa using h.1,fun x hx hl=>?_⟩;rw [← h.2 x hx hl];have:b≠x:=by omega
  simp [setCell_eq,mapBlock,Array.getElem?_modify,this]
instance : Inhabited Sl := ⟨z80⟩
theorem val_ {P:Program} {ops:Array Oper} {Q:Exit→Act→World→Prop} {oi:Oper} {N:Option Tmp} {a:Act} {w w1:World} {v:Value} {K:Act→World→Prop} (hw:Region.wanted oi (yielded ops a.tmps)=true) (hN:oi.dst=N) (hrun:(execOp a.eval oi).run P w = .ok (.value v) w1)
    (h:K (a.put N v) w1):if Region.wanted oi (yielded ops a.tmps)=true then Oper.wp P oi a w K Q else K (a.put N undef) w:=by
  rw [if_pos hw]
  unfold Oper.wp
  rw [hrun]
  show K (a.put oi.dst v) w1
  rw [hN];exact h
theorem two_at (W:World) (z:Obj):((W.alloc z).alloc z).heap[W.heap.size]? = some z∧((W.alloc z).alloc z).heap[W.heap.size+1]? = some z:=by
  refine ⟨?_,?_⟩
  · rw [alloc_eq_grow (W.alloc z)];exact (heap_grow_old _ _ (by simp)).trans (Go.MapKept.heap_alloc W z).1
  · have h:=(Go.MapKept.heap_alloc (W.alloc z) z).1
    rwa [show (W.alloc z).heap.size=W.heap.size+1 by simp] at h
structure Two (k:Nat) (enc:α→List Value) [Inhabited α] (t:Nat) (zs:Array Value) (w0 W:World) (g:Nat) (dk:Array α) (p q:Nat) (w':World):Prop where
  s:SWK enc k w0 g 0 dk w'
  k:Kp [] W w'
  ne:p≠q
  hp:W.heap.size≤p
  hq:W.heap.size≤q
  bp:w'.heap[p]? = some (.cells zs t (0,0))
  bq:w'.heap[q]? = some (.cells zs t (0,0))
def encS (s:Sl):List Value:=[.int .i64 s.f0, .int .i64 s.f1, .int .i64 s.f2, .int .i64 s.f3, .string s.f4, .int .i64 s.f5]
abbrev set6 (w:World) (p:Nat) (x:Sl):World:=(((((w.setCell ⟨p,0,none⟩ (.int .i64 x.f0)).setCell ⟨p,1,none⟩ (.int .i64 x.f1)).setCell ⟨p,2,none⟩ (.int .i64 x.f2)).setCell ⟨p,3,none⟩ (.int .i64 x.f3)).setCell ⟨p,4,none⟩ (.string x.f4)).setCell ⟨p,5,none⟩ (.int .i64 x.f5)
theorem set6_at {w:World} {p:Nat} {x:Sl} (h:w.heap[p]? = some (.cells #[.int .i64 0, .int .i64 0, .int .i64 0, .int .i64 0, .string ⟨#[]⟩, .int .i64 0] 80 (0,0))):(set6 w p x).heap[p]? = some (.cells #[.int .i64 x.f0, .int .i64 x.f1, .int .i64 x.f2, .int .i64 x.f3, .string x.f4, .int .i64 x.f5] 80 (0,0)):=Z.bp (ra h)
theorem set6_far {w:World} {p q:Nat} {x:Sl} (h:p≠q):(set6 w p x).heap[q]? = w.heap[q]? := by
  have e:∀ (w':World) (o:Nat) (v:Value),(w'.setCell ⟨p,o,none⟩ v).heap[q]? = w'.heap[q]? := fun w' o v=>by simp [setCell_eq,mapBlock,Array.getElem?_modify,h]
  simp only [set6,e]
theorem set6_sw {enc:Sl→List Value} {k g:Nat} {w0 w:World} {dk:Array Sl} {p:Nat} {x:Sl} (h:SWK enc k w0 g 0 dk w) (hp:w0.heap.size≤p):SWK enc k w0 g 0 dk (set6 w p x) :=
  (((((h.setCell_new _ _ _ hp).setCell_new _ _ _ hp).setCell_new _ _ _ hp).setCell_new _ _ _ hp).setCell_new _ _ _ hp).setCell_new _ _ _ hp
theorem set6_kp {l:List Nat} {W w:World} {p:Nat} {x:Sl} (h:Kp l W w) (hp:W.heap.size≤p):Kp l W (set6 w p x) :=
  kp_new (kp_new (kp_new (kp_new (kp_new (kp_new h hp _) hp _) hp _) hp _) hp _) hp _
theorem slt_eq (x y:Sl):slt (sk x) (sk y)=if x.f0=y.f0 then (if x.f4.toList=y.f4.toList then decide (x.f5<y.f5) else Op.bytesLess x.f4.toList y.f4.toList) else decide (x.f0<y.f0):=rfl
def less1.T:Bool × List (List Nat × List Nat):=(true,[([],[]),([],[]),([0,1],[0,1]),([2],[2]),([],[]),([],[]),([4,5],[4,5]),([6],[6]),([],[]),([],[]),([8,3,0,1,2,3,8,9],[3,8]),([9,7,10,0,1,2,3,4,5,6,7,8,9,10],[7,9])])
def less1.B:List Nat:=[0,0,3,7,0,0,48,112,0,0,783,2047]
theorem less1.tab:rtab .any (opsOf Tryz.f38 1)=less1.T:=by kernel_rfl
theorem less1.bits:waitsOk less1.T.2 less1.B=true:=by kernel_rfl
abbrev H1 (sb g n cap i j:Nat) (x y:Sl) (w':World):Prop:=w'.cell? ⟨sb,0,none⟩=some (.slice (some ⟨g,0,none⟩) n cap)∧w'.cell? ⟨g,i * 6,none⟩=some (.int .i64 x.f0)∧w'.cell? ⟨g,i * 6+1,none⟩=some (.int .i64 x.f1)∧w'.cell? ⟨g,i * 6+2,none⟩=some (.int .i64 x.f2)∧w'.cell? ⟨g,i * 6+3,none⟩=some (.int .i64 x.f3)∧w'.cell? ⟨g,i * 6+4,none⟩=some (.string x.f4)∧w'.cell? ⟨g,i * 6+5,none⟩=some (.int .i64 x.f5) ∧
    w'.cell? ⟨g,j * 6,none⟩=some (.int .i64 y.f0)∧w'.cell? ⟨g,j * 6+1,none⟩=some (.int .i64 y.f1)∧w'.cell? ⟨g,j * 6+2,none⟩=some (.int .i64 y.f2)∧w'.cell? ⟨g,j * 6+3,none⟩=some (.int .i64 y.f3)∧w'.cell? ⟨g,j * 6+4,none⟩=some (.string y.f4)∧w'.cell? ⟨g,j * 6+5,none⟩=some (.int .i64 y.f5)
set_option maxHeartbeats 4000000 in
set_option maxRecDepth 100000 in
theorem less1 (w0 W:World) (g sb n cap:Nat) (dk:Array Sl) (hS:SWK encS 6 w0 g 0 dk W) (hH:HoldsK encS 6 W g 0 dk) (hz:dk.size=n) (hn:n≤1000000000) (hb:W.cell? ⟨sb,0,none⟩=some (.slice (some ⟨g,0,none⟩) n cap)) (i j:Nat) (hi:i<n) (hj:j<n) :
    Calls Tryz.prog 38 (#[.int .i64 i, .int .i64 j]++#[.pointer (some ⟨sb,0,none⟩)]) W fun e w'=>e = .returned (.bool (slt (sk dk[i]!) (sk dk[j]!)))∧SWK encS 6 w0 g 0 dk w'∧Kp [] W w':=by
  have hu52:=Tryz.underlying80;have hu50:=Tryz.underlying78;have ci:∀ c,c<6→W.cell? ⟨g,i * 6+c,none⟩=some (encS dk[i]!)[c]! := fun c hc=>by have:=(hH.cell (i:=i) (c:=c) (by omega) hc).1;rwa [Nat.zero_add] at this
  have cj:∀ c,c<6→W.cell? ⟨g,j * 6+c,none⟩=some (encS dk[j]!)[c]! := fun c hc=>by have:=(hH.cell (i:=j) (c:=c) (by omega) hc).1;rwa [Nat.zero_add] at this
  generalize dk[i]! = x at ci ⊢
  generalize dk[j]! = y at cj ⊢
  have i0:=ci 0 (by decide);have i1:=ci 1 (by decide);have i2:=ci 2 (by decide);have i3:=ci 3 (by decide);have i4:=ci 4 (by decide);have i5:=ci 5 (by decide)
  have j0:=cj 0 (by decide);have j1:=cj 1 (by decide);have j2:=cj 2 (by decide);have j3:=cj 3 (by decide);have j4:=cj 4 (by decide);have j5:=cj 5 (by decide)
  simp only [encS,List.getElem!_cons_zero,List.getElem!_cons_succ,Nat.add_zero] at i0 i1 i2 i3 i4 i5 j0 j1 j2 j3 j4 j5;clear ci cj hH;have hi0:(0:Int)≤(i:Int):=by omega
  have hj0:(0:Int)≤(j:Int):=by omega
  have hin:(i:Int)<(n:Int):=by omega
  have hjn:(j:Int)<(n:Int):=by omega
  go_enter Tryz.func38,Tryz.ntmps38
  try go_wp2
  refine start_ (n:=12) (S:=H1 sb g n cap i j x y) (ds:=[]) (bl 12 0) (by kernel_rfl) rfl rfl ⟨hb,i0,i1,i2,i3,i4,i5,j0,j1,j2,j3,j4,j5⟩ (fun hHeld=>?_);refine with_tabW less1.tab less1.bits (fun HT_ HW_=>?_);have S1:=hS.drewN 1;have K1:Kp [] W W.drew:=Kp.drewN 1;refine tk 0 8 (bl 12 1) ?_ hHeld;refine pu 1 9 (bl 12 3) ?_;refine pu 2 10 (bl 12 7) ?_;refine tk 3 11 (bl 12 15) ?_ hHeld;refine tk 4 12 (bl 12 31) ?_ hHeld;refine pu 5 13 (bl 12 63) ?_;refine pu 6 14 (bl 12 127) ?_;refine tk 7 15 (bl 12 255) ?_ hHeld;have hbl:∀ b o v,W.cell? ⟨b,o,none⟩=some v→b<W.heap.size:=fun b o v h=>World.block_lt_of_cell? W _ h;have hsb:=hbl _ _ _ hb;have hg:=hbl _ _ _ i1;refine join_ (σ:=Nat × Nat) 2 (bl 12 1023) (fun s=>[(6, .pointer (some ⟨s.1,0,none⟩)),(7, .pointer (some ⟨s.2,0,none⟩))]) (fun s w'=>H1 sb g n cap i j x y w'∧Two 6 encS 80 #[.int .i64 0, .int .i64 0, .int .i64 0, .int .i64 0, .string ⟨#[]⟩, .int .i64 0] w0 W g dk s.1 s.2 w') ?_ (fun hCont=>?_);rotate_left
  · have hal:∀ (o:Obj) (w':World),w'.heap.size=W.heap.size∨w'.heap.size=W.heap.size+1→H1 sb g n cap i j x y w'→H1 sb g n cap i j x y (w'.alloc o):=fun o w' hs h=>by
      have e:∀ b f,b=sb∨b=g→(w'.alloc o).cell? ⟨b,f,none⟩=w'.cell? ⟨b,f,none⟩:=fun b f hb'=>World.cell?_alloc_past _ _ _ (by show b<w'.heap.size;rcases hb' with rfl | rfl<;>omega);obtain ⟨h0,h1,h2,h3,h4,h5,h6,h7,h8,h9,h10,h11,h12⟩:=h;exact ⟨by rw [e _ _ (.inl rfl)];exact h0,by rw [e _ _ (.inr rfl)];exact h1,by rw [e _ _ (.inr rfl)];exact h2,by rw [e _ _ (.inr rfl)];exact h3,by rw [e _ _ (.inr rfl)];exact h4,by rw [e _ _ (.inr rfl)];exact h5,by rw [e _ _ (.inr rfl)];exact h6,by rw [e _ _ (.inr rfl)];exact h7,by rw [e _ _ (.inr rfl)];exact h8,by rw [e _ _ (.inr rfl)];exact h9,by rw [e _ _ (.inr rfl)];exact h10,by rw [e _ _ (.inr rfl)];exact h11,by rw [e _ _ (.inr rfl)];exact h12⟩
    refine two_ (i:=8) (j:=9) (Ni:=some 6) (Nj:=some 7) (bl 12 511) (bl 12 767) rfl rfl rfl rfl (two_of HT_.out (by kernel_rfl)) (by decide) (by decide) (fun K hK=>?_) (fun K hK=>?_)
    · refine val_ (by rfl) rfl (by go_simp;first | rfl | exact ⟨rfl,rfl⟩) ?_;refine hK.out _ _ (hal _ _ (.inl rfl) hHeld) (fun hHeld=>?_);clear hK K;refine nm 6 ?_;refine oe 9 7 (bl 12 1023) (fun K hK=>?_);refine val_ (by rfl) rfl (by go_simp;first | rfl | exact ⟨rfl,rfl⟩) ?_;refine hK.out _ _ (hal _ _ (.inr (by simp)) hHeld) (fun hHeld=>?_);clear hK K;refine nm 7 ?_;exact norm_ (by simp only [putAll,Act.put,List.setIfInBounds_toArray,List.set_cons_zero,List.set_cons_succ]) (hCont (W.heap.size,W.heap.size+1) _ ⟨hHeld,(S1.alloc _).alloc _,(K1.trans (Kp.alloc _)).trans (Kp.alloc _),by simp,Nat.le_refl _,Nat.le_succ _,(two_at W _).1,(two_at W _).2⟩)
    · refine val_ (by rfl) rfl (by go_simp;first | rfl | exact ⟨rfl,rfl⟩) ?_;refine hK.out _ _ (hal _ _ (.inl rfl) hHeld) (fun hHeld=>?_);clear hK K;refine nm 7 ?_;refine oe 8 6 (bl 12 1023) (fun K hK=>?_);refine val_ (by rfl) rfl (by go_simp;first | rfl | exact ⟨rfl,rfl⟩) ?_;refine hK.out _ _ (hal _ _ (.inr (by simp)) hHeld) (fun hHeld=>?_);clear hK K;refine nm 6 ?_;exact norm_ (by simp only [putAll,Act.put,List.setIfInBounds_toArray,List.set_cons_zero,List.set_cons_succ]) (hCont (W.heap.size+1,W.heap.size) _ ⟨hHeld,(S1.alloc _).alloc _,(K1.trans (Kp.alloc _)).trans (Kp.alloc _),by simp,Nat.le_succ _,Nat.le_refl _,(two_at W _).2,(two_at W _).1⟩)
  rintro ⟨p,q⟩ w1 ⟨hHeld,hT⟩
  simp only [putAll,Act.put,List.setIfInBounds_toArray,List.set_cons_zero,List.set_cons_succ];obtain ⟨T1,T2,hne,hp,hq,bp,bq⟩:=hT;obtain ⟨hz0,hz1,hz2,hz3,hz4,hz5,hf0,hf1,hf2,hf3,hf4,hf5⟩:=zc6 (ra bp);obtain ⟨kz0,kz1,kz2,kz3,kz4,kz5,kf0,kf1,kf2,kf3,kf4,kf5⟩:=zc6 (ra bq);have hne':=Ne.symm hne
  have hfar:∀ r,W.heap.size≤r→∀ (v:Value) (o:Nat) (w':World),H1 sb g n cap i j x y w'→H1 sb g n cap i j x y (w'.setCell ⟨r,o,none⟩ v):=fun r hr v o w' h=>by
    have e:∀ b f,b=sb∨b=g→(w'.setCell ⟨r,o,none⟩ v).cell? ⟨b,f,none⟩=w'.cell? ⟨b,f,none⟩:=fun b f hb'=>World.cell?_setCell_far _ _ _ _ (by show r≠b;rcases hb' with rfl | rfl<;>omega);obtain ⟨h0,h1,h2,h3,h4,h5,h6,h7,h8,h9,h10,h11,h12⟩:=h;exact ⟨by rw [e _ _ (.inl rfl)];exact h0,by rw [e _ _ (.inr rfl)];exact h1,by rw [e _ _ (.inr rfl)];exact h2,by rw [e _ _ (.inr rfl)];exact h3,by rw [e _ _ (.inr rfl)];exact h4,by rw [e _ _ (.inr rfl)];exact h5,by rw [e _ _ (.inr rfl)];exact h6,by rw [e _ _ (.inr rfl)];exact h7,by rw [e _ _ (.inr rfl)];exact h8,by rw [e _ _ (.inr rfl)];exact h9,by rw [e _ _ (.inr rfl)];exact h10,by rw [e _ _ (.inr rfl)];exact h11,by rw [e _ _ (.inr rfl)];exact h12⟩
  have hlow:=hS.le;refine one_ (i:=10) (N:=none) (bl 12 2047) rfl rfl (one_of HT_.out (by kernel_rfl)) (by decide) (fun K hK=>?_);refine skip_ (w1:=?_) (by rfl) rfl ?_ ?_;rotate_left
  · go_simp
    rfl
  refine hK.out _ (set6 w1 p x) (hfar p hp _ _ _ (hfar p hp _ _ _ (hfar p hp _ _ _ (hfar p hp _ _ _ (hfar p hp _ _ _ (hfar p hp _ _ _ hHeld)))))) (fun hHeld=>?_);clear hK K;have B1:=set6_at (x:=x) bp;have B2:=(set6_far (w:=w1) (x:=x) hne).trans bq;have T1:=set6_sw (x:=x) T1 (Nat.le_trans hlow hp);have T2:=set6_kp (x:=x) T2 hp
  generalize set6 w1 p x=w2 at *
  clear hz0 hz1 hz2 hz3 hz4 hz5 hf0 hf1 hf2 hf3 hf4 hf5 kz0 kz1 kz2 kz3 kz4 kz5 kf0 kf1 kf2 kf3 kf4 kf5;obtain ⟨kz0,kz1,kz2,kz3,kz4,kz5,kf0,kf1,kf2,kf3,kf4,kf5⟩:=zc6 (ra B2);refine one_ (i:=11) (N:=none) (bl 12 4095) rfl rfl (one_of HT_.out (by kernel_rfl)) (by decide) (fun K hK=>?_);refine skip_ (w1:=?_) (by rfl) rfl ?_ ?_;rotate_left
  · go_simp
    rfl
  refine hK.out _ (set6 w2 q y) (hfar q hq _ _ _ (hfar q hq _ _ _ (hfar q hq _ _ _ (hfar q hq _ _ _ (hfar q hq _ _ _ (hfar q hq _ _ _ hHeld)))))) (fun hHeld=>?_);clear hK K;have B1:=(set6_far (w:=w2) (x:=y) hne').trans B1;have B2:=set6_at (x:=y) B2;have T1:=set6_sw (x:=y) T1 (Nat.le_trans hlow hq);have T2:=set6_kp (x:=y) T2 hq
  generalize set6 w2 q y=w3 at *
  clear kz0 kz1 kz2 kz3 kz4 kz5 kf0 kf1 kf2 kf3 kf4 kf5;obtain ⟨hz0,hz1,hz2,hz3,hz4,hz5,hf0,hf1,hf2,hf3,hf4,hf5⟩:=zc6 (ra B1);obtain ⟨kz0,kz1,kz2,kz3,kz4,kz5,kf0,kf1,kf2,kf3,kf4,kf5⟩:=zc6 (ra B2);refine done_ (done_of HT_.out (by kernel_rfl)) ?_;clear i0 i1 i2 i3 i4 i5 j0 j1 j2 j3 j4 j5 hHeld hfar;have hend:∀ v:Bool,v=slt (sk x) (sk y)→(Ending.returned (.bool v) = .returned (.bool (slt (sk x) (sk y)))∧SWK encS 6 w0 g 0 dk w3∧Kp [] W w3):=fun v h=>⟨by rw [h],T1,T2⟩;have HE:Aside0 _:=ra hend;clear hend T1 T2 hS S1 K1;by_cases e0:x.f0=y.f0
  · have f0:(x.f0 != y.f0)=false:=by simp [e0]
    have E0:=ra e0;clear e0;by_cases e1:x.f4.toList=y.f4.toList
    · have f1:(x.f4.toList != y.f4.toList)=false:=by simp [e1]
      have f1':(x.f4.toList==y.f4.toList)=true:=by simp [e1]
      have E1:=ra e1;clear e1;go_wp2;go_ret
      refine HE.out _ ?_;rw [slt_eq,if_pos E0.out,if_pos E1.out]
    · have f1:(x.f4.toList != y.f4.toList)=true:=by simpa using e1
      have f1':(x.f4.toList==y.f4.toList)=false:=by simpa using e1
      have E1:=ra e1;clear e1;go_wp2;go_ret
      refine HE.out _ ?_;rw [slt_eq,if_pos E0.out,if_neg E1.out]
  · have f0:(x.f0 != y.f0)=true:=by simpa using e0
    have E0:=ra e0;clear e0;go_wp2;go_ret
    refine HE.out _ ?_;rw [slt_eq,if_neg E0.out]
abbrev Tr:=(Int × Int) × (Option Addr × Nat × Nat) × List Sl
def encC (s:Tr):List Value:=[.int .i64 s.1.1, .int .i64 s.1.2, .slice s.2.1.1 s.2.1.2.1 s.2.1.2.2]
abbrev set3 (w:World) (p:Nat) (x:Tr):World:=((w.setCell ⟨p,0,none⟩ (.int .i64 x.1.1)).setCell ⟨p,1,none⟩ (.int .i64 x.1.2)).setCell ⟨p,2,none⟩ (.slice x.2.1.1 x.2.1.2.1 x.2.1.2.2)
theorem set3_at {w:World} {p:Nat} {x:Tr} (h:w.heap[p]? = some (.cells #[.int .i64 0, .int .i64 0, .slice none 0 0] 84 (0,0))):(set3 w p x).heap[p]? = some (.cells #[.int .i64 x.1.1, .int .i64 x.1.2, .slice x.2.1.1 x.2.1.2.1 x.2.1.2.2] 84 (0,0)):=Z.bp (ra h)
theorem set3_far {w:World} {p q:Nat} {x:Tr} (h:p≠q):(set3 w p x).heap[q]? = w.heap[q]? := by
  have e:∀ (w':World) (o:Nat) (v:Value),(w'.setCell ⟨p,o,none⟩ v).heap[q]? = w'.heap[q]? := fun w' o v=>by simp [setCell_eq,mapBlock,Array.getElem?_modify,h]
  simp only [set3,e]
theorem set3_sw {enc:Tr→List Value} {k g:Nat} {w0 w:World} {dk:Array Tr} {p:Nat} {x:Tr} (h:SWK enc k w0 g 0 dk w) (hp:w0.heap.size≤p):SWK enc k w0 g 0 dk (set3 w p x) :=
  ((h.setCell_new _ _ _ hp).setCell_new _ _ _ hp).setCell_new _ _ _ hp
theorem set3_kp {l:List Nat} {W w:World} {p:Nat} {x:Tr} (h:Kp l W w) (hp:W.heap.size≤p):Kp l W (set3 w p x) :=
  kp_new (kp_new (kp_new h hp _) hp _) hp _
theorem zc3 {w:World} {g:Nat} {t:TypeId} {a b c:Value} (h:Aside0 (w.heap[g]? = some (.cells #[a,b,c] t (0,0)))):w.cell? ⟨g,0,none⟩=some a∧w.cell? ⟨g,1,none⟩=some b∧w.cell? ⟨g,2,none⟩=some c∧w.frozen? ⟨g,0,none⟩=false∧w.frozen? ⟨g,1,none⟩=false∧w.frozen? ⟨g,2,none⟩=false:=⟨blk_cell h.out 0,blk_cell h.out 1,blk_cell h.out 2,blk_frozen h.out 0,blk_frozen h.out 1,blk_frozen h.out 2⟩
theorem clt_eq (x y:Int × Int):clt x y=if x.1=y.1 then decide (x.2<y.2) else decide (x.1<y.1):=rfl
def less2.T:Bool × List (List Nat × List Nat):=(true,[([],[]),([0],[0]),([],[]),([1,2],[1,2]),([3],[3]),([],[]),([5],[5]),([],[]),([6,7],[6,7]),([8],[8]),([],[]),([],[]),([10,4,0,1,2,3,4,10,11],[4,10]),([11,9,12,0,1,2,3,4,5,6,7,8,9,10,11,12],[9,11])])
def less2.B:List Nat:=[0,1,0,7,15,0,32,0,224,480,0,0,3103,8191]
theorem less2.tab:rtab .any (opsOf Tryz.f39 1)=less2.T:=by kernel_rfl
theorem less2.bits:waitsOk less2.T.2 less2.B=true:=by kernel_rfl
abbrev H2 (sb g n cap i j:Nat) (x y:Tr) (w':World):Prop:=w'.cell? ⟨sb,0,none⟩=some (.slice (some ⟨g,0,none⟩) n cap)∧w'.cell? ⟨g,i * 3,none⟩=some (.int .i64 x.1.1)∧w'.cell? ⟨g,i * 3+1,none⟩=some (.int .i64 x.1.2)∧w'.cell? ⟨g,i * 3+2,none⟩=some (.slice x.2.1.1 x.2.1.2.1 x.2.1.2.2) ∧
    w'.cell? ⟨g,j * 3,none⟩=some (.int .i64 y.1.1)∧w'.cell? ⟨g,j * 3+1,none⟩=some (.int .i64 y.1.2)∧w'.cell? ⟨g,j * 3+2,none⟩=some (.slice y.2.1.1 y.2.1.2.1 y.2.1.2.2)
instance : Inhabited Tr := ⟨((0, 0), (none, 0, 0), [])⟩
set_option maxHeartbeats 4000000 in
set_option maxRecDepth 100000 in
theorem less2 (w0 W:World) (g sb n cap:Nat) (dk:Array Tr) (hS:SWK encC 3 w0 g 0 dk W) (hH:HoldsK encC 3 W g 0 dk) (hz:dk.size=n) (hn:n≤1000000000) (hb:W.cell? ⟨sb,0,none⟩=some (.slice (some ⟨g,0,none⟩) n cap)) (i j:Nat) (hi:i<n) (hj:j<n) :
    Calls Tryz.prog 39 (#[.int .i64 i, .int .i64 j]++#[.pointer (some ⟨sb,0,none⟩)]) W fun e w'=>e = .returned (.bool (clt dk[i]!.1 dk[j]!.1))∧SWK encC 3 w0 g 0 dk w'∧Kp [] W w':=by
  have hu56:=Tryz.underlying84;have hu24:=Tryz.underlying26;have ci:∀ c,c<3→W.cell? ⟨g,i * 3+c,none⟩=some (encC dk[i]!)[c]! := fun c hc=>by have:=(hH.cell (i:=i) (c:=c) (by omega) hc).1;rwa [Nat.zero_add] at this
  have cj:∀ c,c<3→W.cell? ⟨g,j * 3+c,none⟩=some (encC dk[j]!)[c]! := fun c hc=>by have:=(hH.cell (i:=j) (c:=c) (by omega) hc).1;rwa [Nat.zero_add] at this
  generalize dk[i]! = x at ci ⊢
  generalize dk[j]! = y at cj ⊢
  have i0:=ci 0 (by decide);have i1:=ci 1 (by decide);have i2:=ci 2 (by decide)
  have j0:=cj 0 (by decide);have j1:=cj 1 (by decide);have j2:=cj 2 (by decide)
  simp only [encC,List.getElem!_cons_zero,List.getElem!_cons_succ,Nat.add_zero] at i0 i1 i2 j0 j1 j2;clear ci cj hH;have hi0:(0:Int)≤(i:Int):=by omega
  have hj0:(0:Int)≤(j:Int):=by omega
  have hin:(i:Int)<(n:Int):=by omega
  have hjn:(j:Int)<(n:Int):=by omega
  go_enter Tryz.func39,Tryz.ntmps39
  try go_wp2
  refine start_ (n:=14) (S:=H2 sb g n cap i j x y) (ds:=[]) (bl 14 0) (by kernel_rfl) rfl rfl ⟨hb,i0,i1,i2,j0,j1,j2⟩ (fun hHeld=>?_);refine with_tabW less2.tab less2.bits (fun HT_ HW_=>?_);have S1:=hS.drewN 1;have K1:Kp [] W W.drew:=Kp.drewN 1;refine pu 0 8 (bl 14 1) ?_;refine tk 1 9 (bl 14 3) ?_ hHeld;refine pu 2 10 (bl 14 7) ?_;refine pu 3 11 (bl 14 15) ?_;refine tk 4 12 (bl 14 31) ?_ hHeld;refine pu 5 13 (bl 14 63) ?_;refine tk 6 14 (bl 14 127) ?_ hHeld;refine pu 7 15 (bl 14 255) ?_;refine pu 8 16 (bl 14 511) ?_;refine tk 9 17 (bl 14 1023) ?_ hHeld;have hbl:∀ b o v,W.cell? ⟨b,o,none⟩=some v→b<W.heap.size:=fun b o v h=>World.block_lt_of_cell? W _ h;have hsb:=hbl _ _ _ hb;have hg:=hbl _ _ _ i1;refine join_ (σ:=Nat × Nat) 2 (bl 14 4095) (fun s=>[(6, .pointer (some ⟨s.1,0,none⟩)),(7, .pointer (some ⟨s.2,0,none⟩))]) (fun s w'=>H2 sb g n cap i j x y w'∧Two 3 encC 84 #[.int .i64 0, .int .i64 0, .slice none 0 0] w0 W g dk s.1 s.2 w') ?_ (fun hCont=>?_);rotate_left
  · have hal:∀ (o:Obj) (w':World),w'.heap.size=W.heap.size∨w'.heap.size=W.heap.size+1→H2 sb g n cap i j x y w'→H2 sb g n cap i j x y (w'.alloc o):=fun o w' hs h=>by
      have e:∀ b f,b=sb∨b=g→(w'.alloc o).cell? ⟨b,f,none⟩=w'.cell? ⟨b,f,none⟩:=fun b f hb'=>World.cell?_alloc_past _ _ _ (by show b<w'.heap.size;rcases hb' with rfl | rfl<;>omega);obtain ⟨h0,h1,h2,h3,h4,h5,h6⟩:=h;exact ⟨by rw [e _ _ (.inl rfl)];exact h0,by rw [e _ _ (.inr rfl)];exact h1,by rw [e _ _ (.inr rfl)];exact h2,by rw [e _ _ (.inr rfl)];exact h3,by rw [e _ _ (.inr rfl)];exact h4,by rw [e _ _ (.inr rfl)];exact h5,by rw [e _ _ (.inr rfl)];exact h6⟩
    refine two_ (i:=10) (j:=11) (Ni:=some 6) (Nj:=some 7) (bl 14 2047) (bl 14 3071) rfl rfl rfl rfl (two_of HT_.out (by kernel_rfl)) (by decide) (by decide) (fun K hK=>?_) (fun K hK=>?_)
    · refine val_ (by rfl) rfl (by go_simp;first | rfl | exact ⟨rfl,rfl⟩) ?_;refine hK.out _ _ (hal _ _ (.inl rfl) hHeld) (fun hHeld=>?_);clear hK K;refine nm 6 ?_;refine oe 11 7 (bl 14 4095) (fun K hK=>?_);refine val_ (by rfl) rfl (by go_simp;first | rfl | exact ⟨rfl,rfl⟩) ?_;refine hK.out _ _ (hal _ _ (.inr (by simp)) hHeld) (fun hHeld=>?_);clear hK K;refine nm 7 ?_;exact norm_ (by simp only [putAll,Act.put,List.setIfInBounds_toArray,List.set_cons_zero,List.set_cons_succ]) (hCont (W.heap.size,W.heap.size+1) _ ⟨hHeld,(S1.alloc _).alloc _,(K1.trans (Kp.alloc _)).trans (Kp.alloc _),by simp,Nat.le_refl _,Nat.le_succ _,(two_at W _).1,(two_at W _).2⟩)
    · refine val_ (by rfl) rfl (by go_simp;first | rfl | exact ⟨rfl,rfl⟩) ?_;refine hK.out _ _ (hal _ _ (.inl rfl) hHeld) (fun hHeld=>?_);clear hK K;refine nm 7 ?_;refine oe 10 6 (bl 14 4095) (fun K hK=>?_);refine val_ (by rfl) rfl (by go_simp;first | rfl | exact ⟨rfl,rfl⟩) ?_;refine hK.out _ _ (hal _ _ (.inr (by simp)) hHeld) (fun hHeld=>?_);clear hK K;refine nm 6 ?_;exact norm_ (by simp only [putAll,Act.put,List.setIfInBounds_toArray,List.set_cons_zero,List.set_cons_succ]) (hCont (W.heap.size+1,W.heap.size) _ ⟨hHeld,(S1.alloc _).alloc _,(K1.trans (Kp.alloc _)).trans (Kp.alloc _),by simp,Nat.le_succ _,Nat.le_refl _,(two_at W _).2,(two_at W _).1⟩)
  rintro ⟨p,q⟩ w1 ⟨hHeld,hT⟩
  simp only [putAll,Act.put,List.setIfInBounds_toArray,List.set_cons_zero,List.set_cons_succ];obtain ⟨T1,T2,hne,hp,hq,bp,bq⟩:=hT;obtain ⟨hz0,hz1,hz2,hf0,hf1,hf2⟩:=zc3 (ra bp);obtain ⟨kz0,kz1,kz2,kf0,kf1,kf2⟩:=zc3 (ra bq);have hne':=Ne.symm hne
  have hfar:∀ r,W.heap.size≤r→∀ (v:Value) (o:Nat) (w':World),H2 sb g n cap i j x y w'→H2 sb g n cap i j x y (w'.setCell ⟨r,o,none⟩ v):=fun r hr v o w' h=>by
    have e:∀ b f,b=sb∨b=g→(w'.setCell ⟨r,o,none⟩ v).cell? ⟨b,f,none⟩=w'.cell? ⟨b,f,none⟩:=fun b f hb'=>World.cell?_setCell_far _ _ _ _ (by show r≠b;rcases hb' with rfl | rfl<;>omega);obtain ⟨h0,h1,h2,h3,h4,h5,h6⟩:=h;exact ⟨by rw [e _ _ (.inl rfl)];exact h0,by rw [e _ _ (.inr rfl)];exact h1,by rw [e _ _ (.inr rfl)];exact h2,by rw [e _ _ (.inr rfl)];exact h3,by rw [e _ _ (.inr rfl)];exact h4,by rw [e _ _ (.inr rfl)];exact h5,by rw [e _ _ (.inr rfl)];exact h6⟩
  have hlow:=hS.le;refine one_ (i:=12) (N:=none) (bl 14 8191) rfl rfl (one_of HT_.out (by kernel_rfl)) (by decide) (fun K hK=>?_);refine skip_ (w1:=?_) (by rfl) rfl ?_ ?_;rotate_left
  · go_simp
    rfl
  refine hK.out _ (set3 w1 p x) (hfar p hp _ _ _ (hfar p hp _ _ _ (hfar p hp _ _ _ hHeld))) (fun hHeld=>?_);clear hK K;have B1:=set3_at (x:=x) bp;have B2:=(set3_far (w:=w1) (x:=x) hne).trans bq;have T1:=set3_sw (x:=x) T1 (Nat.le_trans hlow hp);have T2:=set3_kp (x:=x) T2 hp
  generalize set3 w1 p x=w2 at *
  clear hz0 hz1 hz2 hf0 hf1 hf2 kz0 kz1 kz2 kf0 kf1 kf2;obtain ⟨kz0,kz1,kz2,kf0,kf1,kf2⟩:=zc3 (ra B2);refine one_ (i:=13) (N:=none) (bl 14 16383) rfl rfl (one_of HT_.out (by kernel_rfl)) (by decide) (fun K hK=>?_);refine skip_ (w1:=?_) (by rfl) rfl ?_ ?_;rotate_left
  · go_simp
    rfl
  refine hK.out _ (set3 w2 q y) (hfar q hq _ _ _ (hfar q hq _ _ _ (hfar q hq _ _ _ hHeld))) (fun hHeld=>?_);clear hK K;have B1:=(set3_far (w:=w2) (x:=y) hne').trans B1;have B2:=set3_at (x:=y) B2;have T1:=set3_sw (x:=y) T1 (Nat.le_trans hlow hq);have T2:=set3_kp (x:=y) T2 hq
  generalize set3 w2 q y=w3 at *
  clear kz0 kz1 kz2 kf0 kf1 kf2;obtain ⟨hz0,hz1,hz2,hf0,hf1,hf2⟩:=zc3 (ra B1);obtain ⟨kz0,kz1,kz2,kf0,kf1,kf2⟩:=zc3 (ra B2);refine done_ (done_of HT_.out (by kernel_rfl)) ?_;clear i0 i1 i2 j0 j1 j2 hHeld hfar;have hend:∀ v:Bool,v=clt x.1 y.1→(Ending.returned (.bool v) = .returned (.bool (clt x.1 y.1))∧SWK encC 3 w0 g 0 dk w3∧Kp [] W w3):=fun v h=>⟨by rw [h],T1,T2⟩;have HE:Aside0 _:=ra hend;clear hend T1 T2 hS S1 K1;by_cases e0:x.1.1<y.1.1
  · have f0:decide (x.1.1<y.1.1)=true:=decide_eq_true e0;have E0:=ra e0;clear e0;go_wp2;go_ret
    refine HE.out _ ?_;rw [clt_eq,if_neg (by have:=E0.out;omega)];exact f0.symm
  · have f0:decide (x.1.1<y.1.1)=false:=decide_eq_false e0;have E0:=ra e0;clear e0;by_cases e1:x.1.1=y.1.1
    · have f1:(x.1.1==y.1.1)=true:=by simp [e1]
      have E1:=ra e1;clear e1;go_wp2;go_ret
      refine HE.out _ ?_;rw [clt_eq,if_pos E1.out]
    · have f1:(x.1.1==y.1.1)=false:=by simpa using e1
      have E1:=ra e1;clear e1;go_wp2;go_ret
      refine HE.out _ ?_;rw [clt_eq,if_neg E1.out];exact f0.symm
end Go.Proofs.YtgklmafdbgnohaaGreat.Il
end
section
namespace Go.Proofs.YtgklmafdbgnohaaGreat.Iw
open Go.RowKit Go.Proofs.YtgklmafdbgnohaaGreatW.PrintWords Go.Proofs.YtgklmafdbgnohaaGreatW.PrintLast Go.Proofs.YtgklmafdbgnohaaGreatW.PrintMore Go.Proofs.YtgklmafdbgnohaaGreat.Z Go.Proofs.YtgklmafdbgnohaaGreat.PA Go.Proofs.YtgklmafdbgnohaaGreat.Ik Go.Proofs.YtgklmafdbgnohaaGreat.Ix Go.Proofs.YtgklmafdbgnohaaGreat.Il
structure MI (w:World) (gm gb:Nat) (V:Mq.MV) (M:Ik.MQ) (W:World):Prop where
  m:W.heap[gm]? = some (Mq.mobj V)
  r:Mq.Rows W w.heap.size V M
  b:W.heap[gb]? = some (.cells #[.slice none 0 0] 28 (0,0))
  bl:Below w.heap.size w W
  gm:w.heap.size≤gm
  gb:w.heap.size≤gb
section
variable {w W W':World} {rw_:Option Nat} {gm gb:Nat} {V:Mq.MV} {M:Ik.MQ}
theorem MI.below (h:MI w gm gb V M W) (hb:Below W.heap.size W W'):MI w gm gb V M W' :=
  ⟨(hb.block gm (Array.getElem?_eq_some_iff.1 h.m).1).trans h.m,Mq.rows_below h.r hb,blk_below h.b hb,below_step h.bl hb,h.gm,h.gb⟩
structure MB (w:World) (gm gb:Nat) (V:Mq.MV) (M:Ik.MQ) (b t:Nat) (W:World):Prop where
  i:MI w gm gb V M W
  ty:∃ cs,W.heap[b]? = some (.cells cs t (0,0))
  ht:t≠80∧t≠28
  hb:w.heap.size≤b
theorem MB.put {b t:Nat} (h:MB w gm gb V M b t W) (o:Nat) (v:Value):MB w gm gb V M b t (W.setCell ⟨b,o,none⟩ v):=by
  obtain ⟨⟨h1,h2,h3,h4,h5,h6⟩,⟨cs,h7⟩,⟨h8,h9⟩,h10⟩:=h
  have hm:b≠gm:=fun e=>by
    subst e;rw [h7] at h1;cases h1
  have hg:b≠gb:=fun e=>by
    subst e;rw [h7] at h3
    injection h3 with h3
    injection h3 with _ h3
    exact h9 h3
  refine ⟨⟨?_,Mq.rows_set h2 h7 h8 o v,?_,below_set h4 h10,h5,h6⟩,⟨cs.setIfInBounds o v,?_⟩,⟨h8,h9⟩,h10⟩
  · rw [Below.heap_setCell W ⟨b,o,none⟩ v gm (Ne.symm hm)];exact h1
  · rw [Below.heap_setCell W ⟨b,o,none⟩ v gb (Ne.symm hg)];exact h3
  · simp [Go.Sort.setCell_eq,Go.Sort.mapBlock,Array.getElem?_modify,h7,Go.Sort.onCells]
theorem MI.box (h:MI w gm gb V M W) (hg:W.grownBy W' rw_) (hr:some gb≠rw_):W'.heap[gb]? = some (.cells #[.slice none 0 0] 28 (0,0)):=(hg.block gb (blk_lt h.b) hr).trans h.b
theorem MI.gne (h:MI w gm gb V M W):some gb≠some gm:=fun e=>by
  have:=h.b;rw [Option.some.inj e,h.m] at this;cases this
theorem MI.keepG (h:MI w gm gb V M W) (hg:W.grownBy W' none):MI w gm gb V M W' :=
  ⟨(hg.block gm (Array.getElem?_eq_some_iff.1 h.m).1 (by simp)).trans h.m,Mq.rows_grown h.r hg (fun _ _ _=>by simp),h.box hg (by simp),h.bl.grown hg h.bl.size (fun j hj=>by cases hj),h.gm,h.gb⟩
theorem MI.keep (h:MI w gm gb V M W) (V':Mq.MV) (M':Ik.MQ) (hm:W'.heap[gm]? = some (Mq.mobj V')) (hr:Mq.Rows W' w.heap.size V' M') (hg:W.grownBy W' (some gm)):MI w gm gb V' M' W' :=
  ⟨hm,hr,h.box hg h.gne,h.bl.grown hg h.bl.size (fun j hj=>by cases hj;exact h.gm),h.gm,h.gb⟩
theorem MI.ent (h:MI w gm gb V M W) (c:Int × Int) (hm:W'.heap[gm]? = some (Mq.mobj (Mq.qadd c V))) (hg:W.grownBy W' (some gm)):MI w gm gb (Mq.qadd c V) (Mq.madd c M) W' :=
  h.keep _ _ hm (Mq.rows_add (Mq.rows_map h.r h.m hg) c) hg
theorem MI.row (h:MI w gm gb V M W) (c:Int × Int) (hg:W.grownBy W' (some gm)):Kd.R k80 80 W' w.heap.size (fun _=>True) (Mq.qval c V) (Mq.mval c M) :=
  Kd.R_mono (Mq.rows_at (Mq.rows_map h.r h.m hg) c) fun _ _=>trivial
theorem MI.app {c:Int × Int} {v1:Value} {s:Ik.Sl} (h:MI w gm gb (Mq.qadd c V) (Mq.madd c M) W) (hk:Mq.qidx c V=Mq.qidx c M) (hR:Kd.R k80 80 W w.heap.size (fun _=>True) (Mq.qval c V) (Mq.mval c M)) (hg:W.grownBy W' (Mq.qval c V).ownBlock) (hat:v1.ownBlock=(Mq.qval c V).ownBlock∨∃ b,v1.ownBlock=some b∧W.heap.size≤b)
    (hr:Kd.R k80 80 W' w.heap.size (fun _=>True) v1 (Mq.mval c M++[s])) :
    W'.heap[gm]? = some (Mq.mobj (Mq.qadd c V))∧Mq.qidx c V<(Mq.qadd c V).length∧∀ W2:World,W2.heap[gm]? = some (Mq.mobj (Mq.qset (Mq.qadd c V) (Mq.qidx c V) v1))→W'.grownBy W2 (some gm)→MI w gm gb (Mq.qset (Mq.qadd c V) (Mq.qidx c V) v1) (Mq.mapp M c s) W2:=by
  have ty:∀ k,(Mq.qval c V).ownBlock=some k→∃ cs,W.heap[k]? = some (.cells cs 80 (0,0)):=fun k hk=>Kd.R_typed hR k hk
  have n1:some gm≠(Mq.qval c V).ownBlock:=fun e=>by
    obtain ⟨cs,hc⟩:=ty gm e.symm;rw [h.m] at hc;cases hc
  have n2:some gb≠(Mq.qval c V).ownBlock:=fun e=>by
    obtain ⟨cs,hc⟩:=ty gb e.symm;rw [h.b] at hc
    injection hc with hc
    injection hc with _ hc
    exact absurd hc (by decide)
  have hm:W'.heap[gm]? = some (Mq.mobj (Mq.qadd c V)):=(hg.block gm (Array.getElem?_eq_some_iff.1 h.m).1 n1).trans h.m;have hrows:=Mq.rows_app h.r hk hg hat hr
  have hbl:Below w.heap.size w W':=h.bl.grown hg h.bl.size (fun j hj=>by
    obtain ⟨_,inner,ho,_⟩:=hR;exact own_base ho j hj)
  refine ⟨hm,Mq.idx_lt c V,fun W2 h2 hg2=>?_⟩;have h3:MI w gm gb (Mq.qadd c V) (Mq.madd c M) W'∨True := .inr trivial;have hb2:W'.heap[gb]? = some (.cells #[.slice none 0 0] 28 (0,0)):=h.box hg n2;exact ⟨h2,Mq.rows_map hrows hm hg2,(hg2.block gb (blk_lt hb2) h.gne).trans hb2,hbl.grown hg2 hbl.size (fun j hj=>by cases hj;exact h.gm),h.gm,h.gb⟩
theorem MI.lit {v:Value} {xs:List Ik.Sl} (h:MI w gm gb V M W) (ho:Kd.R k80 80 W w.heap.size (fun _=>True) v xs) (hg:W.grownBy W' (some gm)):Kd.R k80 80 W' w.heap.size (fun _=>True) v xs:=by
  refine Kd.R_mono (Kd.R_grown (Kd.R_tight rfl ho) hg fun k hk e=>?_) fun _ _=>trivial;obtain ⟨cs,hc⟩:=Kd.R_typed ho k hk.symm;rw [Option.some.inj e,h.m] at hc;cases hc
theorem MI.own {b t:Nat} {cs:Array Value} (h:MI w gm gb V M W) (hb:W.heap[b]? = some (.cells cs t (0,0))) (ht:t≠80) (hne:b≠gb) (hl:w.heap.size≤b) (o:Nat) (v:Value):MI w gm gb V M (W.setCell ⟨b,o,none⟩ v):=by
  have hm:gm≠b:=fun e=>by
    have:=h.m;rw [e,hb] at this;cases this
  refine ⟨?_,Mq.rows_set h.r hb ht o v,?_,below_set h.bl hl,h.gm,h.gb⟩
  · rw [Below.heap_setCell W ⟨b,o,none⟩ v gm hm];exact h.m
  · rw [Below.heap_setCell W ⟨b,o,none⟩ v gb (Ne.symm hne)];exact h.b
theorem MI.cells {b t:Nat} {cs:Array Value} (h:MI w gm gb V M W) (hb:W.heap[b]? = some (.cells cs t (0,0))) (hg:W.grownBy W' (some gm)):W'.heap[b]? = some (.cells cs t (0,0)) :=
  (hg.block b (blk_lt hb) (fun e=>by rw [Option.some.inj e,h.m] at hb;cases hb)).trans hb
theorem row_cells {b t:Nat} {cs:Array Value} {v:Value} {xs:List Ik.Sl} (hR:Kd.R k80 80 W w.heap.size (fun _=>True) v xs) (hb:W.heap[b]? = some (.cells cs t (0,0))) (ht:t≠80) (hg:W.grownBy W' v.ownBlock):W'.heap[b]? = some (.cells cs t (0,0)) :=
  (hg.block b (blk_lt hb) (fun e=>by
    obtain ⟨cs',hc⟩:=Kd.R_typed hR b e.symm;rw [hb] at hc
    injection hc with hc
    injection hc with _ hc
    exact ht hc)).trans hb
theorem slot_KM (W:World) (base:Nat) (x:Ik.Sl) (cs:List Value) (h:k80.K W x cs):k80.M W base (fun _=>False) x cs:=by
  obtain rfl:=k80_open h;exact k80_mkM _ _ _ x
def sumM (M:Ik.MQ):Nat:=(M.map fun p=>p.2.length).sum
theorem sum_modify (M:Ik.MQ):∀ (j:Nat) (s:Ik.Sl),j<M.length→sumM (M.modify j fun q=>(q.1,q.2++[s]))=sumM M+1:=by
  unfold sumM
  induction M with
  | nil=>intro j s h;simp at h
  | cons p r ih =>
    intro j s h
    cases j with
    | zero=>simp;omega
    | succ j =>
      have:=ih j s (by simpa using h);simp only [List.modify_succ_cons,List.map_cons,List.sum_cons];omega
theorem sum_put (M:Ik.MQ) (e:Ev):sumM (putM M e)=sumM M+1:=by
  unfold putM Mq.mapp
  rw [sum_modify _ _ _ (Mq.madd_at e.1 M |> fun h=>(List.getElem?_eq_some_iff.1 h).1)]
  congr 1
  unfold Mq.madd sumM
  split<;>simp
theorem sum_fold (E:List Ev):∀ M:Ik.MQ,sumM (E.foldl putM M)=sumM M+E.length:=by
  induction E with
  | nil=>intro M;rfl
  | cons e r ih=>intro M;rw [List.foldl_cons,ih,sum_put,List.length_cons];omega
theorem mem_sum {M:Ik.MQ} {p:(Int × Int) × List Ik.Sl} (h:p∈M):p.2.length≤sumM M:=by
  unfold sumM
  induction M with
  | nil=>cases h
  | cons q r ih =>
    rw [List.map_cons,List.sum_cons]
    rcases List.mem_cons.1 h with rfl | h
    · omega
    · have:=ih h;omega
theorem mval_le (c:Int × Int) (M:Ik.MQ):(Mq.mval c M).length≤sumM M:=by
  unfold Mq.mval
  cases h:Mq.qfind c M 0 with
  | none=>simp
  | some p =>
    obtain ⟨_,h2⟩:=Mq.qfind_get c M 0 h;have hm:(c,p.2)∈M:=List.mem_of_getElem? h2
    simpa using mem_sum hm
theorem mapp_ne (M:Ik.MQ) (c:Int × Int) (s:Ik.Sl) (h:∀ p∈M,p.2≠[]):∀ p∈Mq.mapp M c s,p.2≠[]:=by
  intro p hp
  unfold Mq.mapp at hp
  obtain ⟨j,hj⟩:=List.getElem?_of_mem hp;rw [List.getElem?_modify] at hj;by_cases e:Mq.qidx c M=j
  · subst e;rw [Mq.madd_at] at hj
    simp at hj
    subst hj;simp
  · have hj':(Mq.madd c M)[j]? = some p:=by simpa [e] using hj
    unfold Mq.madd at hj'
    split at hj'
    · exact h p (List.mem_of_getElem? hj')
    · rename_i hf
      rcases Nat.lt_or_ge j M.length with hl | hl
      · rw [List.getElem?_append_left hl] at hj';exact h p (List.mem_of_getElem? hj')
      · exfalso
        have:Mq.qidx c M=M.length:=by
          unfold Mq.qidx
          cases hq:Mq.qfind c M 0 with
          | none=>rfl
          | some q=>simp [hq] at hf
        have h2:=(List.getElem?_eq_some_iff.1 hj').1
        simp at h2
        omega
theorem fold_ne (E:List Ev):∀ M:Ik.MQ,(∀ p∈M,p.2≠[])→∀ p∈E.foldl putM M,p.2≠[]:=by
  induction E with
  | nil=>intro M h;exact h
  | cons e r ih=>intro M h;exact ih _ (mapp_ne M e.1 e.2 h)
theorem evT_pre (L:List S32) (i j:Nat) (h:i<L.length):(evT (L.take i)).length+(evB L[i].f0 0 (L[i].f1.take j)).length≤(evT L).length:=by
  have hB:∀ (nm:ByteArray) (a:Nat) (B:List S75),(evB nm a B).length=B.length:=by
    intro nm a B
    induction B generalizing a with
    | nil=>rfl
    | cons b r ih=>simp [evB,ih]
  have hT:∀ (A B:List S32),(evT (A++B)).length=(evT A).length+(evT B).length:=by
    intro A B
    induction A with
    | nil=>simp [evT]
    | cons t r ih=>simp [evT,ih];omega
  have e:(evT L).length=(evT (L.take i)).length+(evT (L.drop i)).length:=by rw [← hT,List.take_append_drop]
  have e2:L.drop i=L[i]::L.drop (i+1):=List.drop_eq_getElem_cons h;rw [e,e2];simp only [evT,List.length_append,hB,List.length_take];omega
theorem foldl_evT (L:List S32) (i:Nat) (h:i<L.length):evT (L.take (i+1))=evT (L.take i)++evB L[i].f0 0 L[i].f1:=by
  induction L generalizing i with
  | nil=>simp at h
  | cons t r ih =>
    cases i with
    | zero=>simp [evT]
    | succ i =>
      simp only [List.length_cons,Nat.add_lt_add_iff_right] at h;simp only [List.take_succ_cons,evT,ih i h,List.append_assoc,List.getElem_cons_succ]
theorem evB_take (nm:ByteArray) (B:List S75):∀ (a j:Nat) (h:j<B.length),evB nm a (B.take (j+1))=evB nm a (B.take j)++[((B[j].f0,B[j].f1),⟨B[j].f4,B[j].f5,B[j].f2,B[j].f3,nm,((a+j:Nat):Int)⟩)]:=by
  induction B with
  | nil=>intro a j h;simp at h
  | cons b r ih =>
    intro a j h
    cases j with
    | zero=>simp [evB]
    | succ j =>
      simp only [List.length_cons,Nat.add_lt_add_iff_right] at h;simp only [List.take_succ_cons,evB,ih (a+1) j h,List.cons_append,List.getElem_cons_succ];rw [show a+1+j=a+(j+1) by omega]
end
end Go.Proofs.YtgklmafdbgnohaaGreat.Iw
end
section
namespace Go.Proofs.YtgklmafdbgnohaaGreat.Mr
open Go.RowKit Go.Proofs.YtgklmafdbgnohaaGreat.PA Go.Proofs.YtgklmafdbgnohaaGreatW.PrintWords Go.Proofs.YtgklmafdbgnohaaGreatW.PrintLast Go.Proofs.YtgklmafdbgnohaaGreatW.PrintMore Go.Proofs.YtgklmafdbgnohaaGreat.Mq Go.ChangeMaps
section
variable {w:World} {g r:Nat} {V:MV} {seen:Array Nat} {ops:Array Oper} {rest:List Oper} {o:Oper} {a:Act} {Q:Exit→Act→World→Prop}
def itobj (g:Nat) (V:MV) (seen:Array Nat):Obj := .mapIter (some g) V.length seen V.length
theorem mem_qents {e:MapEntry} : ∀ {V:MV} {i:Nat},e∈qents V i→∃ j,∃ p,V[j]? = some p∧e={ key:=qkey p.1,val:=p.2,born:=i+j }
  | [],i,h=>by cases h
  | p :: q,i,h=>by
    rcases List.mem_cons.1 h with rfl | h
    · exact ⟨0,p,rfl,rfl⟩
    · obtain ⟨j,p',h1,h2⟩:=mem_qents h;exact ⟨j+1,p',by simpa using h1,by rw [h2];simp [Nat.add_assoc,Nat.add_comm 1]⟩
theorem rng_event (hgd:o.guard=none) (m:Operand) (hop:o.op = .range 73 m) (hm:a.eval m = .map (some g)) (hB:w.heap[g]? = some (mobj V))
    (h:∀ r,r=w.heap.size→∀ w1:World,w1.heap[r]? = some (itobj g V #[])→Below w.heap.size w w1→wpList Tryz.prog ops Q rest (a.put o.dst (.pointer (some ⟨r,0,none⟩))) w1):wpList Tryz.prog ops Q (o::rest) a w:=by
  refine wpList_plain hgd fun K hK=>?_
  unfold mobj at hB
  have hrun:(Instr.range 73 (.map (some g))).run Tryz.prog w = .ok (.pointer (some ⟨w.heap.size,0,none⟩)) (w.alloc (itobj g V #[])):=by
    simp only [Instr.range,Sem.run_bind,run_underlying under_map,Result.andThen,Go.MapKept.run_getObj_map hB];rfl
  unfold Oper.wp
  simp [execOp,hop,hm,hrun,Result.andThen]
  exact hK _ _ (h _ rfl _ (Go.MapKept.heap_alloc w _).1 (below_alloc (Below.refl _ _) _))
theorem nxt_event (hgd:o.guard=none) (it:Operand) (hop:o.op = .next it false) (hit:a.eval it = .pointer (some ⟨r,0,none⟩)) (hR:w.heap[r]? = some (itobj g V seen)) (hB:w.heap[g]? = some (mobj V))
    (hDone:(∀ i,i<V.length→i∈seen.toList)→wpList Tryz.prog ops Q rest (a.put o.dst (.tuple #[.bool false])) w)
    (hMore:∀ (i:Nat) (p:(Int × Int) × Value),V[i]? = some p→i ∉ seen.toList→∀ w1:World,w1.heap[r]? = some (itobj g V (seen.push i))→w.grownBy w1 (some r)→w1.heap.size=w.heap.size →
      (Instr.entry (.pointer (some ⟨r,0,none⟩))).run Tryz.prog w1 = .ok (.tuple #[qkey p.1,p.2]) w1→wpList Tryz.prog ops Q rest (a.put o.dst (.tuple #[.bool true,qkey p.1,p.2])) w1):wpList Tryz.prog ops Q (o::rest) a w:=by
  refine wpList_plain hgd fun K hK=>?_;have hlen:=length_qents V 0
  have hold:∀ x∈(qents V 0).toArray.toList,x.born<V.length:=fun x hx=>by
    obtain ⟨j,p,h1,rfl⟩:=mem_qents (by simpa using hx);have:=(List.getElem?_eq_some_iff.1 h1).1
    simpa using this
  have hnd:((qents V 0).toArray.toList.map (·.born)).Nodup:=by
    simp only [born_qents];exact List.nodup_range'
  unfold mobj at hB
  unfold itobj at hR
  unfold Oper.wp
  rcases run_next_at (P:=Tryz.prog) w o.type r g V.length V.length seen _ V.length hR hB hold (Nat.le_refl _) with ⟨h0,hrun⟩ | ⟨e,he,w1,hal,hrun⟩
  · simp [execOp,hop,hit,hrun,Result.andThen]
    refine hK _ _ (hDone fun i hi=>?_);rw [leftOf] at h0;have h1:(qents V 0).toArray.filter (fun e => !seen.contains e.born)=#[]:=Array.eq_empty_of_size_eq_zero h0;rw [Array.filter_eq_empty_iff] at h1;have h2:=qents_at V 0 i;rw [List.getElem?_eq_getElem hi] at h2;have h3:=h1 { key:=qkey V[i].1,val:=V[i].2,born:=0+i } (by simpa using List.mem_of_getElem? h2)
    simpa using h3
  · have hmem:e∈(qents V 0).toArray.toList∧seen.contains e.born=false:=by
      rw [leftOf] at he
      simpa using he
    obtain ⟨j,p,h1,h2⟩:=mem_qents (by simpa using hmem.1);have hb:e.born=j:=by rw [h2];simp
    have hw1:w1.heap=w.heap∧w.grownBy w1 none:=by
      rcases hal with rfl | rfl
      · exact ⟨rfl,rfl,rfl,rfl,Nat.le_refl _,fun _ _ _=>rfl⟩
      · exact ⟨rfl,rfl,rfl,rfl,Nat.le_refl _,fun _ _ _=>rfl⟩
    have hlt:r<w.heap.size:=(Array.getElem?_eq_some_iff.1 hR).1
    have hgr:g≠r:=fun e'=>by
      subst e';rw [hR] at hB;cases hB
    have hR2:(setBlock w1 r (.mapIter (some g) V.length (seen.push e.born) V.length)).heap[r]? = some (itobj g V (seen.push j)):=by
      rw [hb];simp [setBlock,hw1.1,hlt,itobj]
    have hB2:(setBlock w1 r (.mapIter (some g) V.length (seen.push e.born) V.length)).heap[g]? = some (.map (qents V 0).toArray V.length):=by
      simp only [setBlock,hw1.1];rw [Array.getElem?_setIfInBounds_ne (Ne.symm hgr)];exact hB
    have hen:=run_entry_at (P:=Tryz.prog) _ r g V.length seen _ V.length e (by rw [hR2,itobj,hb]) hB2 hmem.1 hnd;simp [execOp,hop,hit,hrun,Result.andThen]
    refine hK _ _ ?_;have hm:=hMore j p h1 (by simpa [hb] using hmem.2) _ hR2 ⟨hw1.2.os,hw1.2.tape,hw1.2.output,by simp [setBlock,hw1.1],fun i hi hne=>?_⟩ (by simp [setBlock,hw1.1]) (by rw [hen,h2])
    · rw [show e.key=qkey p.1 by rw [h2],show e.val=p.2 by rw [h2]];exact hm
    · simp only [setBlock,hw1.1];rw [Array.getElem?_setIfInBounds_ne (fun e'=>hne (by rw [e']))]
end
end Go.Proofs.YtgklmafdbgnohaaGreat.Mr
end
section
namespace Go.Proofs.YtgklmafdbgnohaaGreat.Ir
open Go.RowKit Go.Proofs.YtgklmafdbgnohaaGreatW.PrintWords Go.Proofs.YtgklmafdbgnohaaGreatW.PrintLast Go.Proofs.YtgklmafdbgnohaaGreatW.PrintMore Go.Proofs.YtgklmafdbgnohaaGreat.Z Go.Proofs.YtgklmafdbgnohaaGreat.PA Go.Proofs.YtgklmafdbgnohaaGreat.Ik Go.Proofs.YtgklmafdbgnohaaGreat.Ix Go.Proofs.YtgklmafdbgnohaaGreat.Il Go.Proofs.YtgklmafdbgnohaaGreat.Iw
section
variable {α:Type}
theorem reps_cons {R:α→List Value→Prop} {k:Nat} {x:α} {c r:List Value} {xs:List α} (h:Reps R k (x::xs) (c++r)) (hc:c.length=k):R x c∧Reps R k xs r:=by
  have hl:=h.1;refine ⟨by have:=h.2 0 x rfl;simpa [← hc] using this,by simp only [List.length_append,List.length_cons,Nat.add_mul] at hl;omega,fun j p hj=>?_⟩;have:=h.2 (j+1) p (by simpa using hj);rw [show (j+1) * k=c.length+j * k by rw [Nat.add_mul,hc];omega] at this
  rwa [List.drop_length_add_append] at this
theorem flat_of {R:α→List Value→Prop} {enc:α→List Value} {k:Nat} (he:∀ x c,R x c→c=enc x):∀ {xs:List α} {inner:List Value},Reps R k xs inner→inner=xs.flatMap enc
  | [],inner,h=>by have:=h.1;simp at this;simpa using this
  | x :: xs,inner,h=>by
    have hl:=h.1;have e:inner=inner.take k++inner.drop k:=(List.take_append_drop k inner).symm;have hc:(inner.take k).length=k:=by simp only [List.length_cons,Nat.add_mul] at hl;simp;omega
    rw [e] at h;obtain ⟨h1,h2⟩:=reps_cons h hc;rw [e,he _ _ h1,flat_of he h2];simp
theorem reps_of {R:α→List Value→Prop} {enc:α→List Value} {k:Nat} (hk:∀ x,(enc x).length=k):∀ {xs:List α},(∀ (j:Nat) x,xs[j]? = some x→R x (enc x))→Reps R k xs (xs.flatMap enc)
  | [],_=>Reps.none _ _
  | x :: xs,h=>by
    have h1:=h 0 x rfl;have h2:=reps_of (R:=R) hk (xs:=xs) fun j y hy=>h (j+1) y (by simpa using hy);refine ⟨by simp only [List.flatMap_cons,List.length_append,hk,h2.1,List.length_cons,Nat.add_mul];omega,fun j p hj=>?_⟩
    cases j with
    | zero =>
      simp only [List.getElem?_cons_zero,Option.some.injEq] at hj;subst hj
      simpa [← hk x] using h1
    | succ j =>
      have:=h2.2 j p (by simpa using hj);rw [List.flatMap_cons,show (j+1) * k=(enc x).length+j * k by rw [Nat.add_mul,hk];omega,List.drop_length_add_append];exact this
end
section
variable {W W':World} {base:Nat} {ok:Nat→Prop} {v:Value}
theorem slots_own {xs:List Sl} (h:Kd.R k80 80 W base ok v xs):W.ownsRow base 80 6 v xs.length (xs.flatMap encS):=by
  obtain ⟨_,inner,ho,hr⟩:=h;have e:=flat_of (enc:=encS) (fun x c hc=>k80_openM hc) hr;rw [← e];exact ho
theorem own_slots {xs:List Sl} (h:W.ownsRow base 80 6 v xs.length (xs.flatMap encS)):Kd.R k80 80 W base (fun _=>True) v xs :=
  ⟨fun _ _=>trivial,_,h,reps_of (enc:=encS) (k:=6) (R:=k80.M W base (fun k=>(fun _=>True) k∧some k≠v.ownBlock)) (fun _=>rfl) fun _ x _=>k80_mkM _ _ _ x⟩
abbrev tv (t:Tr):Value := .slice t.2.1.1 t.2.1.2.1 t.2.1.2.2
def tc (t:Tr):Ce:=⟨t.1.1,t.1.2,t.2.2⟩
theorem cells_S {D:List Tr} (ho:W.ownsRow base 84 3 v D.length (D.flatMap encC)) (hr:∀ (j:Nat) t,D[j]? = some t→Kd.R k80 80 W base (fun _=>True) (tv t) t.2.2)
    (hd:∀ (i j:Nat) p q,D[i]? = some p→D[j]? = some q→i≠j→(tv p).ownBlock=none∨(tv p).ownBlock≠(tv q).ownBlock):Kd.S k84 84 W base (fun _=>True) v (D.map tc):=by
  have hz:(D.map tc).zipIdx.length=D.length:=by simp
  refine ⟨fun k=>D.findIdx fun t=>(tv t).ownBlock==some k,fun _ _=>trivial,D.flatMap encC,by rw [hz];exact ho,?_⟩;have hlen:(D.flatMap encC).length=D.length * 3:=(reps_of (R:=fun x c=>c=encC x) (k:=3) (fun _=>rfl) (fun _ _ _=>rfl)).1;refine ⟨by rw [hz];exact hlen,fun j p hj=>?_⟩;rw [List.getElem?_zipIdx,List.getElem?_map] at hj
  obtain ⟨t,ht,e⟩:∃ t,D[j]? = some t∧p=(tc t,j):=by
    cases h:D[j]? with
    | none=>rw [h] at hj;cases hj
    | some t=>rw [h] at hj;exact ⟨t,rfl,by simpa using hj.symm⟩
  subst e;have hc:=(reps_of (R:=fun x c=>c=encC x) (k:=3) (xs:=D) (fun _=>rfl) (fun _ _ _=>rfl)).2 j t ht;have hc':(((D.flatMap encC).drop (j * 3)).take 3)=encC t:=hc
  show (Kd.tag _ k84).M W base _ (tc t,j) (((D.flatMap encC).drop (j * 3)).take 3)
  rw [hc'];have hR:=hr j t ht;refine k84_mkM _ _ _ (tc t) (Kd.R_mono (Kd.R_tight rfl hR) fun k hk=>⟨⟨trivial,fun e=>?_⟩,?_⟩)
  · obtain ⟨cs,h1⟩:=Kd.R_typed hR k hk.symm;obtain ⟨cs',h2⟩:=own_typed ho k e.symm;rw [h1] at h2
    injection h2 with h2
    injection h2 with _ h2
    exact absurd h2 (by decide)
  · have hj':j<D.length:=(List.getElem?_eq_some_iff.1 ht).1
    show D.findIdx _=j
    rw [List.findIdx_eq hj'];refine ⟨by rw [(List.getElem?_eq_some_iff.1 ht).2];simpa using hk.symm,fun i hi=>?_⟩;have hi':i<D.length:=by omega
    rcases hd i j D[i] t (List.getElem?_eq_getElem hi') ht (by omega) with h | h
    · simp only [beq_eq_false_iff_ne,Bool.not_eq_true];rw [h];simp
    · simp only [beq_eq_false_iff_ne,Bool.not_eq_true];intro e;exact h (e.trans hk)
theorem rows_turn {V:Mq.MV} {M:MQ} {i:Nat} {p:(Int × Int) × Value} {q:(Int × Int) × List Sl} {ys:List Sl} (h:Mq.Rows W base V M) (hp:V[i]? = some p) (hq:M[i]? = some q) (hg:W.grownBy W' p.2.ownBlock) (hr:Kd.R k80 80 W' base (fun _=>True) p.2 ys):Mq.Rows W' base V (M.set i (q.1,ys)):=by
  have hi:i<M.length:=(List.getElem?_eq_some_iff.1 hq).1;refine ⟨?_,fun j a b ha hb=>?_,h.2.2⟩
  · rw [h.1];refine List.ext_getElem? fun j=>?_;simp only [List.getElem?_map,List.getElem?_set];by_cases e:i=j
    · subst e;rw [if_pos rfl,if_pos hi,hq];rfl
    · simp [e]
  · rw [List.getElem?_set] at hb;by_cases e:i=j
    · subst e;simp only [if_pos rfl,hi,if_true,Option.some.injEq] at hb;subst hb;rw [hp] at ha;cases ha
      exact Kd.R_tight rfl hr
    · rw [if_neg e] at hb;refine Kd.R_grown (h.2.1 j a b ha hb) hg fun k hk=>?_
      rcases h.2.2 j i a p ha hp (Ne.symm e) with h1 | h1
      · rw [h1] at hk;cases hk
      · rw [hk];exact h1
end
def msrt (M:MQ) (s:List Nat):MQ:=M.mapIdx fun i p=>(p.1,if i∈s then srt slt sk p.2 else p.2)
theorem msrt_get (M:MQ) (s:List Nat) (i:Nat):(msrt M s)[i]? = M[i]?.map fun p=>(p.1,if i∈s then srt slt sk p.2 else p.2):=by simp [msrt]
theorem msrt_nil (M:MQ):msrt M []=M:=by simp [msrt,List.mapIdx_eq_iff]
theorem msrt_push {M:MQ} {s:List Nat} {i:Nat} {q:(Int × Int) × List Sl} (hi:i ∉ s) (hq:M[i]? = some q):(msrt M s).set i (q.1,srt slt sk q.2)=msrt M (s++[i]):=by
  have hl:i<(msrt M s).length:=by have:=(List.getElem?_eq_some_iff.1 hq).1;simpa [msrt] using this
  refine List.ext_getElem? fun j=>?_;rw [List.getElem?_set,msrt_get,msrt_get];by_cases e:i=j
  · subst e;rw [if_pos rfl,if_pos hl,hq];simp
  · rw [if_neg e]
    cases M[j]? with
    | none=>rfl
    | some p =>
      have:(j∈s++[i])=(j∈s):=by simp [Ne.symm e]
      simp only [Option.map_some,this]
def sl3:Value→Option Addr × Nat × Nat
  | .slice A n c=>(A,n,c)
  | _=>(none,0,0)
def tri (V:Mq.MV) (M:MQ) (i:Nat):Tr:=((V.getD i ((0,0), .slice none 0 0)).1,sl3 (V.getD i ((0,0), .slice none 0 0)).2,srt slt sk (M.getD i ((0,0),[])).2)
structure LS (w:World) (gm gb go r:Nat) (V:Mq.MV) (M:MQ) (seen:Array Nat) (ms rs:List Nat) (vo:Value) (W:World):Prop where
  i:MI w gm gb V (msrt M ms) W
  it:W.heap[r]? = some (Mr.itobj gm V seen)
  o:W.heap[go]? = some (.cells #[vo] 28 (0,0))
  row:(Kd.raw 3).R 84 W w.heap.size (fun _=>True) vo (rs.map fun i=>encC (tri V M i))
  lo:w.heap.size≤go
  lr:w.heap.size≤r
  ne:go≠gb
section
variable {w W W':World} {gm gb go r:Nat} {V:Mq.MV} {M:MQ} {seen seen':Array Nat} {ms rs:List Nat} {vo:Value}
theorem LS.below (h:LS w gm gb go r V M seen ms rs vo W) (hb:Below W.heap.size W W'):LS w gm gb go r V M seen ms rs vo W' :=
  ⟨h.i.below hb,(hb.block r (Array.getElem?_eq_some_iff.1 h.it).1).trans h.it,blk_below h.o hb,Kd.R_below h.row hb,h.lo,h.lr,h.ne⟩
theorem raw_kept {v:Value} {rows:List (List Value)} {rw_:Option Nat} (h:(Kd.raw 3).R 84 W w.heap.size (fun _=>True) v rows) (hg:W.grownBy W' rw_) (h5:∀ x (cs:Array Value),rw_=some x→W.heap[x]? ≠ some (.cells cs 84 (0,0))):(Kd.raw 3).R 84 W' w.heap.size (fun _=>True) v rows:=by
  refine Kd.R_mono (Kd.R_grown (Kd.R_tight rfl h) hg fun k hk e=>?_) fun _ _=>trivial;obtain ⟨cs,hc⟩:=Kd.R_typed h k hk.symm;exact h5 k cs e.symm hc
theorem LS.next (h:LS w gm gb go r V M seen ms rs vo W) (hr:W'.heap[r]? = some (Mr.itobj gm V seen')) (hg:W.grownBy W' (some r)):LS w gm gb go r V M seen' ms rs vo W':=by
  have ht:=h.it;have h1:r≠gm:=fun e=>by subst e;rw [h.i.m] at ht;cases ht
  have h2:r≠gb:=fun e=>by subst e;rw [h.i.b] at ht;cases ht
  have h3:r≠go:=fun e=>by subst e;rw [h.o] at ht;cases ht
  exact ⟨⟨(hg.block gm (Array.getElem?_eq_some_iff.1 h.i.m).1 (by simpa using Ne.symm h1)).trans h.i.m,Mq.rows_grown h.i.r hg (fun k cs hc e=>by rw [Option.some.inj e,ht] at hc;cases hc),h.i.box hg (by simpa using Ne.symm h2),h.i.bl.grown hg h.i.bl.size (fun j hj=>by cases hj;exact h.lr),h.i.gm,h.i.gb⟩,
    hr,(hg.block go (blk_lt h.o) (by simpa using Ne.symm h3)).trans h.o,raw_kept h.row hg (fun x cs e hc=>by cases e;rw [ht] at hc;cases hc),h.lo,h.lr,h.ne⟩
theorem LS.sort (h:LS w gm gb go r V M seen ms rs vo W) {i:Nat} {p:(Int × Int) × Value} {q:(Int × Int) × List Sl} (hi:i ∉ ms) (hp:V[i]? = some p) (hq:M[i]? = some q) (hg:W.grownBy W' p.2.ownBlock) (hr:Kd.R k80 80 W' w.heap.size (fun _=>True) p.2 (srt slt sk q.2)):LS w gm gb go r V M seen (ms++[i]) rs vo W':=by
  have hq':(msrt M ms)[i]? = some (q.1,q.2):=by rw [msrt_get,hq];simp [hi]
  have hR:=h.i.r.2.1 i p _ hp hq';have ty:∀ k,p.2.ownBlock=some k→∃ cs,W.heap[k]? = some (.cells cs 80 (0,0)):=fun k hk=>Kd.R_typed hR k hk
  have cells:∀ (b t:Nat) (cs:Array Value),W.heap[b]? = some (.cells cs t (0,0))→t≠80→W'.heap[b]? = some (.cells cs t (0,0)):=fun b t cs hb ht=>(hg.block b (blk_lt hb) (fun e=>by
    obtain ⟨cs',hc⟩:=ty b e.symm;rw [hb] at hc
    injection hc with hc
    injection hc with _ hc
    exact ht hc)).trans hb
  have hm:W'.heap[gm]? = some (Mq.mobj V):=(hg.block gm (Array.getElem?_eq_some_iff.1 h.i.m).1 (fun e=>by
    obtain ⟨cs',hc⟩:=ty gm e.symm;rw [h.i.m] at hc;cases hc)).trans h.i.m
  have ht:W'.heap[r]? = some (Mr.itobj gm V seen):=(hg.block r (Array.getElem?_eq_some_iff.1 h.it).1 (fun e=>by
    obtain ⟨cs',hc⟩:=ty r e.symm;rw [h.it] at hc;cases hc)).trans h.it
  refine ⟨⟨hm,?_,cells gb _ _ h.i.b (by decide),h.i.bl.grown hg h.i.bl.size (fun j hj=>?_),h.i.gm,h.i.gb⟩,ht,cells go _ _ h.o (by decide),raw_kept h.row hg (fun x cs e hc=>?_),h.lo,h.lr,h.ne⟩
  · have:=rows_turn h.i.r hp hq' hg hr
    rwa [msrt_push hi hq] at this
  · obtain ⟨_,inner,ho,_⟩:=hR;exact own_base ho j hj
  · obtain ⟨cs',hc'⟩:=ty x e;rw [hc] at hc'
    injection hc' with hc'
    injection hc' with _ hc'
    exact absurd hc' (by decide)
theorem LS.app (h:LS w gm gb go r V M seen ms rs vo W) {v1:Value} {rows:List (List Value)} (hg:W.grownBy W' vo.ownBlock) (hr:(Kd.raw 3).R 84 W' w.heap.size (fun _=>True) v1 rows) :
    W'.heap[go]? = some (.cells #[vo] 28 (0,0))∧∀ rs',rows=rs'.map (fun i=>encC (tri V M i))→LS w gm gb go r V M seen ms rs' v1 (W'.setCell ⟨go,0,none⟩ v1):=by
  have ty:∀ k,vo.ownBlock=some k→∃ cs,W.heap[k]? = some (.cells cs 84 (0,0)):=fun k hk=>Kd.R_typed h.row k hk
  have cells:∀ (b t:Nat) (cs:Array Value),W.heap[b]? = some (.cells cs t (0,0))→t≠84→W'.heap[b]? = some (.cells cs t (0,0)):=fun b t cs hb ht=>(hg.block b (blk_lt hb) (fun e=>by
    obtain ⟨cs',hc⟩:=ty b e.symm;rw [hb] at hc
    injection hc with hc
    injection hc with _ hc
    exact ht hc)).trans hb
  have hm:W'.heap[gm]? = some (Mq.mobj V):=(hg.block gm (Array.getElem?_eq_some_iff.1 h.i.m).1 (fun e=>by
    obtain ⟨cs',hc⟩:=ty gm e.symm;rw [h.i.m] at hc;cases hc)).trans h.i.m
  have ht:W'.heap[r]? = some (Mr.itobj gm V seen):=(hg.block r (Array.getElem?_eq_some_iff.1 h.it).1 (fun e=>by
    obtain ⟨cs',hc⟩:=ty r e.symm;rw [h.it] at hc;cases hc)).trans h.it
  have hb:=cells gb _ _ h.i.b (by decide);have ho:=cells go _ _ h.o (by decide)
  have hrows:Mq.Rows W' w.heap.size V (msrt M ms):=Mq.rows_grown h.i.r hg (fun k cs hc e=>by
    obtain ⟨cs',hc'⟩:=ty k e.symm;rw [hc] at hc'
    injection hc' with hc'
    injection hc' with _ hc'
    exact absurd hc' (by decide))
  have hbl:Below w.heap.size w W':=h.i.bl.grown hg h.i.bl.size (fun j hj=>by
    obtain ⟨_,inner,ho,_⟩:=h.row;exact own_base ho j hj)
  refine ⟨ho,fun rs' e=>?_⟩;have n1:gm≠go:=fun e=>by subst e;rw [ho] at hm;cases hm
  have n2:r≠go:=fun e=>by subst e;rw [ho] at ht;cases ht
  refine ⟨⟨?_,Mq.rows_set hrows ho (by decide) 0 v1,?_,below_set hbl h.lo,h.i.gm,h.i.gb⟩,?_,?_,?_,h.lo,h.lr,h.ne⟩
  · rw [Below.heap_setCell W' ⟨go,0,none⟩ v1 gm n1];exact hm
  · rw [Below.heap_setCell W' ⟨go,0,none⟩ v1 gb (Ne.symm h.ne)];exact hb
  · rw [Below.heap_setCell W' ⟨go,0,none⟩ v1 r n2];exact ht
  · simp [Go.Sort.setCell_eq,Go.Sort.mapBlock,Array.getElem?_modify,ho,Go.Sort.onCells]
  · rw [← e];exact Kd.R_set hr ho (by decide) 0 v1
end
end Go.Proofs.YtgklmafdbgnohaaGreat.Ir
end
section
namespace Go.Proofs.YtgklmafdbgnohaaGreat.Is
open Go.RowKit Go.Sort Go.Proofs Go.Proofs.YtgklmafdbgnohaaGreatW.PrintWords Go.Proofs.YtgklmafdbgnohaaGreatW.PrintLast Go.Proofs.YtgklmafdbgnohaaGreatW.PrintMore Go.Proofs.YtgklmafdbgnohaaGreat.Z Go.Proofs.YtgklmafdbgnohaaGreat.PA Go.Proofs.YtgklmafdbgnohaaGreat.Ik Go.Proofs.YtgklmafdbgnohaaGreat.Ix Go.Proofs.YtgklmafdbgnohaaGreat.Il Go.Proofs.YtgklmafdbgnohaaGreat.Iw Go.Proofs.YtgklmafdbgnohaaGreat.Ir
theorem i50:(Tryz.prog.info? 78).isSome=true:=by kernel_rfl
theorem i52:(Tryz.prog.info? 80).isSome=true:=by kernel_rfl
theorem i24:(Tryz.prog.info? 26).isSome=true:=by kernel_rfl
theorem i56:(Tryz.prog.info? 84).isSome=true:=by kernel_rfl
section
variable {W:World} {base g b cap:Nat}
set_option maxRecDepth 100000 in
theorem sortS {xs:List Sl} (hl:xs.length≤1000000000) (hn:(xs.map sk).Nodup) (hR:Kd.R k80 80 W base (fun _=>True) (.slice (some ⟨g,0,none⟩) xs.length cap) xs) (hb:W.cell? ⟨b,0,none⟩=some (.slice (some ⟨g,0,none⟩) xs.length cap)) (hbg:b≠g) :
    Calls Tryz.prog 37 #[.iface 78 (.slice (some ⟨g,0,none⟩) xs.length cap), .func (.func 38) #[] #[.pointer (some ⟨b,0,none⟩)]] W fun e w'=>e = .returned (.tuple #[])∧W.grownBy w' (some g)∧Kd.R k80 80 w' base (fun _=>True) (.slice (some ⟨g,0,none⟩) xs.length cap) (srt slt sk xs):=by
  have hlt:g<W.heap.size:=by
    obtain ⟨cs,hc⟩:=Kd.R_typed hR g rfl;exact blk_lt hc
  have hbl:b<W.heap.size:=World.block_lt_of_cell? W _ hb;have ho:=slots_own hR
  have hH:HoldsK encS 6 W g 0 xs.toArray:=by
    obtain ⟨hlen,h3⟩:=ho
    rcases h3 with ⟨h3,_⟩ | ⟨g',cap',cur,hv,hbase,hb',hn',hcap,hcs,htk⟩
    · cases h3
    cases hv
    unfold HoldsK
    rw [Sl.flatK_list encS 6 (fun _=>rfl) (by decide)];exact Sl.holds_flat hb' (by rw [Sl.flat_len encS 6 (fun _=>rfl)];exact htk)
  have hswo:=To.swo to_s sk
  have hless:∀ (dk:Array Sl) (W2:World),dk.size=xs.length→SWK encS 6 W g 0 dk W2→∀ i j:Nat,i<xs.length→j<xs.length→Calls Tryz.prog 38 (#[.int .i64 i, .int .i64 j]++#[.pointer (some ⟨b,0,none⟩)]) W2 fun e w'=>e = .returned (.bool (slt (sk dk[i]!) (sk dk[j]!)))∧SWK encS 6 W g 0 dk w'∧Sg.Kp [] W2 w':=fun dk W2 hz hS i j hi hj=>by
    refine less1 W W2 g b xs.length cap dk hS (hS.holds hlt hH (by simpa using hz)) hz hl ?_ i j hi hj;obtain ⟨m,os,rfl⟩:=hS;rw [(Sg.Kp.sortWorldK (l:=[g]) m os (by simp)).cell hbl (by simpa using hbg)];exact hb
  have hc:=Sl.sort_row (α:=Sl) 78 80 ((Tryz.prog.info? 78).get i50) ((Tryz.prog.info? 80).get i52) (Option.some_get _).symm (by kernel_rfl) (by kernel_rfl) (Option.some_get _).symm 25 (by intro w;kernel_rfl) (by kernel_rfl) (by kernel_rfl) (by decide)
    encS 6 (fun _=>rfl) (by decide) (by kernel_rfl) (by intro w;kernel_rfl) (fun x v hv=>by simp [encS] at hv;rcases hv with rfl | rfl | rfl | rfl | rfl | rfl<;>rfl) (fun a b=>slt (sk a) (sk b)) hswo 38 #[.pointer (some ⟨b,0,none⟩)] (enters_of Tryz.func38 (by kernel_rfl) rfl) hl ho hless
  refine hc.mono ?_
  rintro e w' ⟨rfl,ys,hp,hs,ho',hg⟩
  refine ⟨rfl,hg,?_⟩;rw [← srt_eq to_s sk hp hs hn];rw [← hp.length_eq] at ho' ⊢;exact own_slots ho'
set_option maxRecDepth 100000 in
theorem sortC {D:List Tr} (hl:D.length≤1000000000) (hn:(D.map fun t=>t.1).Nodup) (ho:W.ownsRow base 84 3 (.slice (some ⟨g,0,none⟩) D.length cap) D.length (D.flatMap encC)) (hb:W.cell? ⟨b,0,none⟩=some (.slice (some ⟨g,0,none⟩) D.length cap)) (hbg:b≠g) :
    Calls Tryz.prog 37 #[.iface 26 (.slice (some ⟨g,0,none⟩) D.length cap), .func (.func 39) #[] #[.pointer (some ⟨b,0,none⟩)]] W fun e w'=>e = .returned (.tuple #[])∧W.grownBy w' (some g)∧w'.ownsRow base 84 3 (.slice (some ⟨g,0,none⟩) D.length cap) D.length ((srt clt (fun t:Tr=>t.1) D).flatMap encC):=by
  have hbl:b<W.heap.size:=World.block_lt_of_cell? W _ hb;have hgc:(Value.slice (some ⟨g,0,none⟩) D.length cap).ownBlock=some g:=rfl;have hlt:g<W.heap.size:=own_lt ho g hgc
  have hH:HoldsK encC 3 W g 0 D.toArray:=by
    obtain ⟨hlen,h3⟩:=ho
    rcases h3 with ⟨h3,_⟩ | ⟨g',cap',cur,hv,hbase,hb',hn',hcap,hcs,htk⟩
    · cases h3
    cases hv
    unfold HoldsK
    rw [Sl.flatK_list encC 3 (fun _=>rfl) (by decide)];exact Sl.holds_flat hb' (by rw [Sl.flat_len encC 3 (fun _=>rfl)];exact htk)
  have hswo:=To.swo to_c (fun t:Tr=>t.1)
  have hless:∀ (dk:Array Tr) (W2:World),dk.size=D.length→SWK encC 3 W g 0 dk W2→∀ i j:Nat,i<D.length→j<D.length→Calls Tryz.prog 39 (#[.int .i64 i, .int .i64 j]++#[.pointer (some ⟨b,0,none⟩)]) W2 fun e w'=>e = .returned (.bool (clt dk[i]!.1 dk[j]!.1))∧SWK encC 3 W g 0 dk w'∧Sg.Kp [] W2 w':=fun dk W2 hz hS i j hi hj=>by
    refine less2 W W2 g b D.length cap dk hS (hS.holds hlt hH (by simpa using hz)) hz hl ?_ i j hi hj;obtain ⟨m,os,rfl⟩:=hS;rw [(Sg.Kp.sortWorldK (l:=[g]) m os (by simp)).cell hbl (by simpa using hbg)];exact hb
  have hc:=Sl.sort_row (α:=Tr) 26 84 ((Tryz.prog.info? 26).get i24) ((Tryz.prog.info? 84).get i56) (Option.some_get _).symm (by kernel_rfl) (by kernel_rfl) (Option.some_get _).symm 25 (by intro w;kernel_rfl) (by kernel_rfl) (by kernel_rfl) (by decide)
    encC 3 (fun _=>rfl) (by decide) (by kernel_rfl) (by intro w;kernel_rfl) (fun x v hv=>by simp [encC] at hv;rcases hv with rfl | rfl | rfl<;>rfl) (fun a b=>clt a.1 b.1) hswo 39 #[.pointer (some ⟨b,0,none⟩)] (enters_of Tryz.func39 (by kernel_rfl) rfl) hl ho hless
  refine hc.mono ?_
  rintro e w' ⟨rfl,ys,hp,hs,ho',hg⟩
  refine ⟨rfl,hg,?_⟩;rw [← srt_eq to_c (fun t:Tr=>t.1) hp hs hn];exact ho'
end
end Go.Proofs.YtgklmafdbgnohaaGreat.Is
end
section
namespace Go.Proofs.YtgklmafdbgnohaaGreat.It
open Go.RowKit Go.Proofs Go.Proofs.YtgklmafdbgnohaaGreatW.PrintWords Go.Proofs.YtgklmafdbgnohaaGreatW.PrintLast Go.Proofs.YtgklmafdbgnohaaGreatW.PrintMore Go.Proofs.YtgklmafdbgnohaaGreat.Z Go.Proofs.YtgklmafdbgnohaaGreat.PA Go.Proofs.YtgklmafdbgnohaaGreat.Ik Go.Proofs.YtgklmafdbgnohaaGreat.Ix Go.Proofs.YtgklmafdbgnohaaGreat.Il Go.Proofs.YtgklmafdbgnohaaGreat.Iw Go.Proofs.YtgklmafdbgnohaaGreat.Ir
theorem perm_of {l l':List Nat} (h1:l.Nodup) (h2:l'.Nodup) (h:∀ a,a∈l↔a∈l'):l.Perm l':=by
  refine List.perm_iff_count.2 fun a=>?_;rw [h1.count,h2.count];simp [h a]
theorem len_lt {l:List Nat} {n i:Nat} (h1:l.Nodup) (h2:∀ j∈l,j<n) (hi:i ∉ l) (hn:i<n):l.length<n:=by
  have:=List.Nodup.length_le_of_subset (l₁:=i::l) (l₂:=List.range n) (List.nodup_cons.2 ⟨hi,h1⟩) (fun j hj=>by
    rcases List.mem_cons.1 hj with rfl | hj
    · simpa using hn
    · simpa using h2 j hj)
  simp only [List.length_cons,List.length_range] at this;omega
theorem len_sum {M:MQ} (h:∀ p∈M,p.2≠[]):M.length≤sumM M:=by
  unfold sumM
  induction M with
  | nil=>simp
  | cons p r ih =>
    have h1:=ih fun q hq=>h q (by simp [hq]);have h2:=List.length_pos_iff.2 (h p (by simp));simp
    omega
theorem enc_tri {V:Mq.MV} {M:MQ} {i:Nat} {cx cy:Int} {A:Option Addr} {n c:Nat} (h:V[i]? = some ((cx,cy), .slice A n c)):encC (tri V M i)=[.int .i64 cx, .int .i64 cy, .slice A n c]:=by
  unfold tri encC
  simp [List.getD,h,sl3]
def pr (t:Tr):(Int × Int) × List Sl:=(t.1,t.2.2)
section
variable {W:World} {base b:Nat} {vo:Value}
set_option maxRecDepth 100000 in
theorem sortAny {D:List Tr} (hl:D.length≤1000000000) (hn:(D.map fun t=>t.1).Nodup) (ho:W.ownsRow base 84 3 vo D.length (D.flatMap encC)) (hb:W.cell? ⟨b,0,none⟩=some vo) (hbg:some b≠vo.ownBlock) :
    Calls Tryz.prog 37 #[.iface 26 vo, .func (.func 39) #[] #[.pointer (some ⟨b,0,none⟩)]] W fun e w'=>e = .returned (.tuple #[])∧W.grownBy w' vo.ownBlock∧w'.ownsRow base 84 3 vo D.length ((srt clt (fun t:Tr=>t.1) D).flatMap encC):=by
  have ho2:=ho;obtain ⟨hlen,h3⟩:=ho2
  rcases h3 with ⟨rfl,h0⟩ | ⟨g,cap,cur,rfl,_⟩
  · obtain rfl:=List.eq_nil_of_length_eq_zero h0;refine (Any.sort_Slice_tiny Tryz.slice6 26 84 ((Tryz.prog.info? 26).get Is.i24) ((Tryz.prog.info? 84).get Is.i56) (Option.some_get _).symm (by kernel_rfl) (by kernel_rfl) (Option.some_get _).symm 25 (by intro w;kernel_rfl) none 0 0 (by omega) 94 (by kernel_rfl) (.func 39) #[] _ W).mono ?_
    rintro e' w' ⟨rfl,os,rfl⟩
    exact ⟨rfl,⟨rfl,rfl,rfl,by simp,fun k hk _=>Go.Sort.heap_grow_old _ _ hk⟩,⟨by simp [srt], .inl ⟨rfl,rfl⟩⟩⟩
  · exact Is.sortC hl hn ho hb (fun e=>hbg (by rw [e];rfl))
end
section
variable {w W:World} {gm gb go r:Nat} {V:Mq.MV} {M:MQ} {seen:Array Nat} {s:List Nat} {vo:Value}
theorem LS.fin (h:LS w gm gb go r V M seen s s vo W) (hnd:s.Nodup) (hlt:∀ i∈s,i<V.length) (hall:∀ i,i<V.length→i∈s) {t:List Ce} (hf:Ik.fin M=some t) :
    W.ownsRow w.heap.size 84 3 vo (s.map (tri V M)).length ((s.map (tri V M)).flatMap encC)∧((s.map (tri V M)).map fun t=>t.1).Nodup ∧
      ∀ W':World,W.grownBy W' vo.ownBlock→W'.ownsRow w.heap.size 84 3 vo (s.map (tri V M)).length ((srt clt (fun t:Tr=>t.1) (s.map (tri V M))).flatMap encC)→Kd.S k84 84 W' w.heap.size (fun _=>True) vo t:=by
  have hn:(M.map Prod.fst).Nodup:=by
    unfold Ik.fin at hf
    split at hf
    · rename_i h;exact h.1
    · cases hf
  have ht:(srt clt (fun p:(Int × Int) × List Sl=>p.1) (M.map fun p=>(p.1,srt slt sk p.2))).map (fun p=>(⟨p.1.1,p.1.2,p.2⟩:Ce))=t:=by
    unfold Ik.fin at hf
    split at hf
    · exact Option.some.inj hf
    · cases hf
  have hlen:V.length=M.length:=by have:=Mq.rows_len h.i.r;simpa [msrt] using this
  have hsp:s.Perm (List.range V.length):=perm_of hnd List.nodup_range fun a=>⟨fun ha=>by simpa using hlt a ha,fun ha=>hall a (by simpa using ha)⟩
  have hkey:∀ i,i<V.length→(V.getD i ((0,0), .slice none 0 0)).1=(M.getD i ((0,0),[])).1:=fun i hi=>by
    have h1:=congrArg (fun l=>l[i]?) h.i.r.1;have hm:i<M.length:=by omega
    simp only [List.getElem?_map,msrt_get,List.getElem?_eq_getElem hi,List.getElem?_eq_getElem hm,Option.map_some,Option.some.injEq] at h1
    simpa [List.getD,hi,hm] using h1
  have hmp:(List.range V.length).map (fun i=>pr (tri V M i))=M.map fun p=>(p.1,srt slt sk p.2):=by
    refine List.ext_getElem (by simp [hlen]) fun i h1 h2=>?_;have hi:i<V.length:=by simpa using h1
    have hm:i<M.length:=by omega
    have hk:=hkey i hi;simp only [List.getElem_map,List.getElem_range,pr,tri];rw [hk];simp [List.getD,hm]
  have hpm:(s.map fun i=>pr (tri V M i)).Perm (M.map fun p=>(p.1,srt slt sk p.2)):=by
    rw [← hmp];exact hsp.map _
  have hnod:(s.map fun i=>(tri V M i).1).Nodup:=by
    have h1:=(hpm.map Prod.fst).nodup_iff.2 (by rw [List.map_map];exact hn);rw [List.map_map] at h1;exact h1
  have ho:W.ownsRow w.heap.size 84 3 vo (s.map (tri V M)).length ((s.map (tri V M)).flatMap encC):=by
    obtain ⟨_,inner,ho,hr⟩:=h.row;have e:=flat_of (enc:=id) (fun x c hc=>by exact hc.1) hr;rw [List.length_map] at ho;rw [List.length_map,List.flatMap_map];rw [e,List.flatMap_map] at ho;exact ho
  refine ⟨ho,by rw [List.map_map];exact hnod,fun W' hg ho'=>?_⟩
  have e1:(srt clt (fun i=>(tri V M i).1) s).map (tri V M)=srt clt (fun t:Tr=>t.1) (s.map (tri V M)) :=
    srt_eq to_c _ ((srt_perm _ _).map _) (List.pairwise_map.2 (srt_sorted to_c _ _)) (by rw [List.map_map];exact hnod)
  have e2:(srt clt (fun i=>(tri V M i).1) s).map (fun i=>pr (tri V M i))=srt clt (fun p:(Int × Int) × List Sl=>p.1) (M.map fun p=>(p.1,srt slt sk p.2)) :=
    srt_eq to_c _ (((srt_perm _ _).map _).trans hpm) (List.pairwise_map.2 (srt_sorted to_c _ _)) (by rw [List.map_map];exact hn)
  have hsn:(srt clt (fun i=>(tri V M i).1) s).Nodup:=(srt_perm _ _).nodup_iff.2 hnd;have hsm:∀ i∈srt clt (fun i=>(tri V M i).1) s,i∈s:=fun i hi=>(srt_perm _ _).mem_iff.1 hi;have hsl:(srt clt (fun i=>(tri V M i).1) s).length=s.length:=(srt_perm _ _).length_eq;rw [← e1] at ho';rw [← ht,← e2]
  have e3:((srt clt (fun i=>(tri V M i).1) s).map (fun i=>pr (tri V M i))).map (fun p=>(⟨p.1.1,p.1.2,p.2⟩:Ce))=((srt clt (fun i=>(tri V M i).1) s).map (tri V M)).map tc:=by
    rw [List.map_map,List.map_map];rfl
  rw [e3]
  generalize srt clt (fun i=>(tri V M i).1) s=s' at *
  have hat:∀ i∈s,∃ v,V[i]? = some ((V.getD i ((0,0), .slice none 0 0)).1,v)∧tv (tri V M i)=v∧Kd.R k80 80 W w.heap.size (fun _=>True) v (tri V M i).2.2:=fun i hi=>by
    have hl:=hlt i hi;have hm:i<M.length:=by omega
    have hV:V[i]? = some V[i]:=List.getElem?_eq_getElem hl;have hMi:(msrt M s)[i]? = some (M[i].1,srt slt sk M[i].2):=by rw [msrt_get,List.getElem?_eq_getElem hm];simp [hi]
    have hR:=Kd.R_mono (ok':=fun _=>True) (h.i.r.2.1 i V[i] _ hV hMi) fun _ _=>trivial;obtain ⟨A,c,hv⟩:=Kd.R_slice hR;refine ⟨V[i].2,by simp [List.getD,hl],?_,?_⟩
    · unfold tv tri
      simp only [List.getD,hV,Option.getD_some];rw [hv];rfl
    · have e:(tri V M i).2.2=srt slt sk M[i].2:=by unfold tri;simp [List.getD,hm]
      rw [e];exact hR
  have hback:∀ (j:Nat) (p:Tr),(s'.map (tri V M))[j]? = some p→∃ i,s'[j]? = some i∧i∈s∧p=tri V M i:=fun j p hj=>by
    rw [List.getElem?_map] at hj
    cases e:s'[j]? with
    | none=>rw [e] at hj;cases hj
    | some i =>
      rw [e] at hj;exact ⟨i,rfl,hsm i (List.mem_of_getElem? e),(Option.some.inj hj).symm⟩
  refine cells_S (by rw [List.length_map,hsl];rw [List.length_map] at ho';exact ho') (fun j p hj=>?_) (fun i j p q hi hj hne=>?_)
  · obtain ⟨i,_,hi,rfl⟩:=hback j p hj;obtain ⟨v,hV,hv,hR⟩:=hat i hi;rw [hv];refine Kd.R_mono (Kd.R_grown (Kd.R_tight rfl hR) hg fun k hk e=>?_) fun _ _=>trivial;obtain ⟨cs,hc⟩:=Kd.R_typed hR k hk.symm;obtain ⟨cs',hc'⟩:=own_typed ho k e.symm;rw [hc] at hc'
    injection hc' with hc'
    injection hc' with _ hc'
    exact absurd hc' (by decide)
  · obtain ⟨a,ha,has,rfl⟩:=hback i p hi;obtain ⟨b,hb,hbs,rfl⟩:=hback j q hj;obtain ⟨v,hV,hv,_⟩:=hat a has;obtain ⟨v',hV',hv',_⟩:=hat b hbs;rw [hv,hv']
    exact h.i.r.2.2 a b _ _ hV hV' fun e=>by
      subst e;exact hne ((List.getElem?_inj (List.getElem?_eq_some_iff.1 ha).1 hsn).1 (ha.trans hb.symm))
end
end Go.Proofs.YtgklmafdbgnohaaGreat.It
end
