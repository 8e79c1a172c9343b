/- Short forms for the walks of this claim: each lemma bears its side conditions with the tactics that close them. No condition. -/
import Derived.Test.YtgklmafdbgnohaaGreatXW0
set_option linter.unusedVariables false
set_option linter.unusedSimpArgs false
namespace Go.Proofs.YtgklmafdbgnohaaGreat.Z
open Go.RowKit Go.Proofs.YtgklmafdbgnohaaGreatW.PrintWords Go.Proofs.YtgklmafdbgnohaaGreatW.PrintLast Go.Proofs.YtgklmafdbgnohaaGreatW.PrintMore
theorem bq {B:Nat} {w0 W:World} (h:Below B w0 W:=by
    repeat (first | (with_reducible first | exact HB.out | apply below_alloc | apply pw_below_drewN | apply below_drew1 | refine below_set ?_ (Aside0.out (by assumption)) | refine below_set ?_ (by assumption)) | exact HB.out)):Below B w0 W:=h
theorem bk {g:Nat} {t:TypeId} {cs:Array Value} {w W:World} (h:Aside0 (w.heap[g]? = some (.cells cs t (0,0)))) (e:w.heap[g]? = some (.cells cs t (0,0))→W.heap[g]? = some (.cells cs t (0,0)):=by
    (intro hq_;(repeat (first | (with_reducible exact hq_) | (with_reducible refine blk_drewN ?_ _) | (with_reducible refine blk_drew ?_) | (with_reducible refine blk_alloc ?_ _) | refine blk_far ?_ (Aside0.out (by assumption)) _)))):W.heap[g]? = some (.cells cs t (0,0)):=e h.out
def ob (i:Nat) (u:Value):Obj→Obj
  | .cells cs t f => .cells (cs.setIfInBounds i u) t f
  | o=>o
section
variable {w:World} {g i:Nat} {u:Value} {X O o:Obj} {F:Obj→Obj} {p:Addr}
theorem m0 (h:(w.heap[g]?).map id=some X):w.heap[g]? = some X:=by simpa using h
theorem mput (h:(w.heap[g]?).map (F ∘ ob i u)=some X):((w.setCell ⟨g,i,none⟩ u).heap[g]?).map F=some X:=by
  rw [← h];simp only [World.setCell,Array.getElem?_modify]
  cases w.heap[g]? with
  | none=>rfl
  | some o=>cases o<;>rfl
theorem mdrew (h:(w.heap[g]?).map F=some X):(w.drew.heap[g]?).map F=some X:=h
theorem mdrewN (n:Nat) (h:(w.heap[g]?).map F=some X):((w.drewN n).heap[g]?).map F=some X:=h
theorem malloc (h:(w.heap[g]?).map F=some X):((w.alloc o).heap[g]?).map F=some X:=by
  obtain ⟨y,hy,hf⟩:=Option.map_eq_some_iff.1 h;rw [blk_alloc hy,Option.map_some,hf]
theorem mfar (hne:g≠p.block) (h:(w.heap[g]?).map F=some X):((w.setCell p u).heap[g]?).map F=some X:=by
  rw [Below.heap_setCell w p u g hne];exact h
theorem mend (hq:w.heap[g]? = some O) (e:F O=X):(w.heap[g]?).map F=some X:=by
  rw [hq,Option.map_some,e]
end
theorem bp {g:Nat} {t:TypeId} {cs cs2:Array Value} {w W:World} (h:Aside0 (w.heap[g]? = some (.cells cs t (0,0)))) (e:w.heap[g]? = some (.cells cs t (0,0))→W.heap[g]? = some (.cells cs2 t (0,0)):=by
    (intro hq_;refine m0 ?_;(repeat (first | ((with_reducible refine mend hq_ ?_);rfl) | (with_reducible refine mdrewN _ ?_) | (with_reducible refine mdrew ?_) | (with_reducible refine malloc ?_) | (with_reducible refine mput ?_) | refine mfar (Aside0.out (by assumption)) ?_ | refine mfar (by assumption) ?_)))):W.heap[g]? = some (.cells cs2 t (0,0)):=e h.out
theorem bb {g:Nat} {o:Obj} {W W':World} (h:W.heap[g]? = some o) (hb:Below W.heap.size W W'):Aside0 (W'.heap[g]? = some o):=⟨blk_below h hb⟩
theorem bz {w0 W:World} {g:Nat} (hg:g=W.heap.size) (h:Below w0.heap.size w0 W:=by
    repeat (first | (with_reducible first | exact HB.out | apply below_alloc | apply pw_below_drewN | apply below_drew1 | refine below_set ?_ (Aside0.out (by assumption)) | refine below_set ?_ (by assumption)) | exact HB.out)):Aside0 (w0.heap.size≤g):=⟨by rw [hg];exact below_size h⟩
theorem bn {g g':Nat} {t:TypeId} {cs:Array Value} {W:World} (hg:g'=W.heap.size) (h:W.heap[g]? = some (.cells cs t (0,0))):Aside0 (g≠g'):=⟨by rw [hg];exact Nat.ne_of_lt (blk_lt h)⟩
theorem bm {g g':Nat} {t:TypeId} {cs:Array Value} {W:World} (hg:g'=W.heap.size) (h:W.heap[g]? = some (.cells cs t (0,0))):Aside0 (g'≠g):=⟨by rw [hg];exact Nat.ne_of_gt (blk_lt h)⟩
theorem bs {w0 W w':World} (hb:Below W.heap.size W w') (h:Below w0.heap.size w0 W:=by
    repeat (first | (with_reducible first | exact HB.out | apply below_alloc | apply pw_below_drewN | apply below_drew1 | refine below_set ?_ (Aside0.out (by assumption)) | refine below_set ?_ (by assumption)) | exact HB.out)):Aside0 (Below w0.heap.size w0 w'):=⟨below_step h hb⟩
theorem rq {α:Type} {d:Kd α} {e base:Nat} {w W:World} {ok:Nat→Prop} {v:Value} {xs:List α} (h:Aside0 (d.R e w base ok v xs)) (t:d.R e w base ok v xs→d.R e W base ok v xs:=by
    (intro hq_;(with_reducible repeat (first | apply Kd.R_alloc | apply Kd.R_drewN | apply Kd.R_drew));exact hq_)):d.R e W base ok v xs:=t h.out
theorem rr {α:Type} {d:Kd α} {e base:Nat} {w W:World} {ok:Nat→Prop} {v:Value} {xs:List α} (h:d.R e w base ok v xs) (t:d.R e w base ok v xs→d.R e W base ok v xs:=by
    (intro hq_;(with_reducible repeat (first | apply Kd.R_alloc | apply Kd.R_drewN | apply Kd.R_drew));exact hq_)):d.R e W base ok v xs:=t h
theorem ra {p:Prop} (h:p):Aside0 p:=⟨h⟩
theorem hc {w W:World} {x:Addr} {v:Value} (HB:Aside0 (Below w.heap.size w W)) (h:w.cell? x=some v):W.cell? x=some v:=(HB.out.cell (World.block_lt_of_cell? w _ h)).trans h
theorem sc {α:Type} {d:Kd α} {w W:World} {A:Option Addr} {n:Nat} {xs:List α} (h:Aside0 (d.C w A n xs)) (t:d.C w A n xs→d.C W A n xs:=by
    (intro hq_;repeat (first | exact (Kd.C_below hq_ HB.out) | (with_reducible refine Kd.C_alloc ?_ _) | (with_reducible refine Kd.C_drewN ?_ _) | (with_reducible refine Kd.C_drew ?_)))):d.C W A n xs:=t h.out
theorem re {a b:Ending} (h:a=b:=by first | rfl | (simp [errW_none,errW_some]<;>rfl) | (simp [*,errW_none,errW_some]<;>rfl)):a=b:=h
theorem rs {p:Prop} (h:p:=by first | rfl | (simp;done) | (simp [*];done)):p:=h
theorem yh {p:Prop} (h:p:=by first | (rw [hy_];with_reducible exact H) | (have H2_:=(Option.bind_some _ _).symm.trans H;rw [hy_];with_reducible exact H2_) | (have H2_:=(Option.bind_some _ _).symm.trans H;with_reducible exact H2_) | with_reducible exact H | (rw [hy_];exact H) | exact H):p:=h
theorem zc1 {w:World} {g:Nat} {t:TypeId} {a:Value} (h:Aside0 (w.heap[g]? = some (.cells #[a] t (0,0)))):w.cell? ⟨g,0,none⟩=some a∧w.frozen? ⟨g,0,none⟩=false:=⟨blk_cell h.out 0,blk_frozen h.out 0⟩
theorem zc2 {w:World} {g:Nat} {t:TypeId} {a b:Value} (h:Aside0 (w.heap[g]? = some (.cells #[a,b] t (0,0)))):w.cell? ⟨g,0,none⟩=some a∧w.cell? ⟨g,1,none⟩=some b∧w.frozen? ⟨g,0,none⟩=false∧w.frozen? ⟨g,1,none⟩=false:=⟨blk_cell h.out 0,blk_cell h.out 1,blk_frozen h.out 0,blk_frozen h.out 1⟩
theorem zc5 {w:World} {g:Nat} {t:TypeId} {a b c d e:Value} (h:Aside0 (w.heap[g]? = some (.cells #[a,b,c,d,e] t (0,0)))):w.cell? ⟨g,0,none⟩=some a∧w.cell? ⟨g,1,none⟩=some b∧w.cell? ⟨g,2,none⟩=some c∧w.cell? ⟨g,3,none⟩=some d∧w.cell? ⟨g,4,none⟩=some e ∧
    w.frozen? ⟨g,0,none⟩=false∧w.frozen? ⟨g,1,none⟩=false∧w.frozen? ⟨g,2,none⟩=false∧w.frozen? ⟨g,3,none⟩=false∧w.frozen? ⟨g,4,none⟩=false:=⟨blk_cell h.out 0,blk_cell h.out 1,blk_cell h.out 2,blk_cell h.out 3,blk_cell h.out 4,blk_frozen h.out 0,blk_frozen h.out 1,blk_frozen h.out 2,blk_frozen h.out 3,blk_frozen h.out 4⟩
theorem zc6 {w:World} {g:Nat} {t:TypeId} {a b c d e f:Value} (h:Aside0 (w.heap[g]? = some (.cells #[a,b,c,d,e,f] t (0,0)))):w.cell? ⟨g,0,none⟩=some a∧w.cell? ⟨g,1,none⟩=some b∧w.cell? ⟨g,2,none⟩=some c∧w.cell? ⟨g,3,none⟩=some d∧w.cell? ⟨g,4,none⟩=some e∧w.cell? ⟨g,5,none⟩=some f ∧
    w.frozen? ⟨g,0,none⟩=false∧w.frozen? ⟨g,1,none⟩=false∧w.frozen? ⟨g,2,none⟩=false∧w.frozen? ⟨g,3,none⟩=false∧w.frozen? ⟨g,4,none⟩=false∧w.frozen? ⟨g,5,none⟩=false:=⟨blk_cell h.out 0,blk_cell h.out 1,blk_cell h.out 2,blk_cell h.out 3,blk_cell h.out 4,blk_cell h.out 5,blk_frozen h.out 0,blk_frozen h.out 1,blk_frozen h.out 2,blk_frozen h.out 3,blk_frozen h.out 4,blk_frozen h.out 5⟩
theorem bo {α β:Type} {g:Option α} {f:α→Option β} {r:β} (h:g.bind f=some r):∃ t,Aside0 (g=some t)∧f t=some r:=by
  obtain ⟨t,h1,h2⟩:=Option.bind_eq_some_iff.mp h;exact ⟨t,⟨h1⟩,h2⟩
theorem it {α:Type} {c:Prop} [Decidable c] {a b r:Option α} (h:(if c then a else b)=r) (hc:c):a=r:=by rw [if_pos hc] at h;exact h
theorem ie {α:Type} {c:Prop} [Decidable c] {a b r:Option α} (h:(if c then a else b)=r) (hc:¬ c):b=r:=by rw [if_neg hc] at h;exact h
theorem od {p:Prop} [Decidable p] (h:decide p=true:=by first | (with_reducible assumption) | assumption):p:=of_decide_eq_true h
def bl (n m:Nat):Array Bool:=((List.range n).map m.testBit).toArray

section
variable {P:Program} {ops:Array Oper} {Q:Exit→Act→World→Prop} {md:Region.Mode} {S:World→Prop} {ds:List Nat} {fuel:Nat} {l:Array Bool} {a a':Act} {w:World} {oi:Oper} {v:Value}
theorem pu (i N:Nat) (l':Array Bool) (h:wpAnyLast P md ops Q S ds fuel l' a' w) (hi:ops[i]? = some oi:=by rfl) (hN:oi.dst=some N:=by rfl) (hc:anyB md ops l l' i=true:=by first | exact any_of HT_.out (by kernel_rfl) | kernel_rfl) (hQ:∀ c a w,Q (.panic c) (a.put oi.dst v) w→Q (.panic c) a w:=by exact fun _ _ _ h=>h)
    (h1:Region.wanted oi (yielded ops a.tmps)=true:=by rfl) (h2:∀ w',(execOp a.eval oi).run P w' = .ok (.value v) w':=by (intro w';go_simp;with_reducible rfl)) (ha:a.put (some N) v=a':=by (simp only [Act.put,List.setIfInBounds_toArray,List.set_cons_zero,List.set_cons_succ,i64_w,i32_w];rfl)):wpAnyLast P md ops Q S ds (fuel+1) l a w :=
  pure_ l' hi hN hc hQ (Or.inl ⟨h1,h2⟩) ha h
theorem pv (i N:Nat) (l':Array Bool) (h:wpAnyLast P md ops Q S ds fuel l' a' w) (hi:ops[i]? = some oi:=by rfl) (hN:oi.dst=some N:=by rfl) (hc:anyB md ops l l' i=true:=by first | exact any_of HT_.out (by kernel_rfl) | kernel_rfl) (hQ:∀ c a w,Q (.panic c) (a.put oi.dst undef) w→Q (.panic c) a w:=by exact fun _ _ _ h=>h)
    (h1:Region.wanted oi (yielded ops a.tmps)=false:=by rfl) (ha:a.put (some N) undef=a':=by (simp only [Act.put,List.setIfInBounds_toArray,List.set_cons_zero,List.set_cons_succ,i64_w,i32_w];rfl)):wpAnyLast P md ops Q S ds (fuel+1) l a w :=
  pure_ l' hi hN hc hQ (Or.inr ⟨h1,rfl⟩) ha h
theorem tk (i N:Nat) (l':Array Bool) (h:wpAnyLast P md ops Q S ds fuel l' a' w) (hS:S w) (hi:ops[i]? = some oi:=by rfl) (hN:oi.dst=some N:=by rfl) (hc:takeB md ops ds l l' i=true:=by first | exact take_ofW HT_.out HW_.out (by kernel_rfl) | kernel_rfl) (hQ:∀ c a w,Q (.panic c) (a.put oi.dst v) w→Q (.panic c) a w:=by exact fun _ _ _ h=>h)
    (h1:Region.wanted oi (yielded ops a.tmps)=true:=by rfl) (h2:∀ w',S w'→(execOp a.eval oi).run P w' = .ok (.value v) w':=by (intro w' sx_;(try obtain ⟨_,_⟩:=sx_);go_simp;with_reducible rfl)) (ha:a.put (some N) v=a':=by (simp only [Act.put,List.setIfInBounds_toArray,List.set_cons_zero,List.set_cons_succ,i64_w,i32_w];rfl)):wpAnyLast P md ops Q S ds (fuel+1) l a w :=
  take_ l' hi hN hc hQ (Or.inl ⟨h1,h2⟩) hS ha h
theorem nm (N:Tmp) {v:Value} (h:wpAnyLast P md ops Q S ds fuel l a' w) (ha:a.put (some N) v=a':=by (show Act.put _ _ _=_;simp only [Act.put,List.setIfInBounds_toArray,List.set_cons_zero,List.set_cons_succ,i64_w,i32_w];rfl)):wpAnyLast P md ops Q S ds fuel l (a.put (some N) v) w:=norm_ ha h
theorem oe (i N:Nat) (l':Array Bool) (h:∀ K:Act→World→Prop,Shut (∀ a' w',S w'→(S w'→wpAnyLast P md ops Q S ds fuel l' a' w')→K a' w')→if Region.wanted oi (yielded ops a.tmps)=true then Oper.wp P oi a w K Q else K (a.put (some N) undef) w) (hi:ops[i]? = some oi:=by rfl) (hN:oi.dst=some N:=by rfl) (hc:readyB md ops l l' i=true:=by first | exact one_of HT_.out (by kernel_rfl) | kernel_rfl) (hd:i ∉ ds:=by decide) :
    wpAnyLast P md ops Q S ds (fuel+1) l a w:=one_ l' hi hN hc hd h
theorem gs {N:Option Tmp} {K:Act→World→Prop} {f:FuncId} {fn:Func} {as:Array Operand} {ts:Array TypeId} (hf:P.funcs[f]? = some fn) (args:Array Value)
    (h:Calls P f args w fun e w'=>∃ v,e = .returned v∧K (a.put N v) w') (hname:(fn.name == "runtime.NumGoroutine")=false:=by kernel_rfl) (hb:fn.body.isSome=true:=by rfl) (hw:Region.wanted oi (yielded ops a.tmps)=true:=by rfl) (hN:oi.dst=N:=by rfl) (hop:oi.op = .call { callee := .value (.func f),args:=as,argTypes:=ts }:=by rfl) (hargs:as.map a.eval=args:=by ((try simp only [List.map_toArray,List.map_cons,List.map_nil]);first | done | rfl | (simp only [List.length_drop,List.length_take];rfl))) :
    if Region.wanted oi (yielded ops a.tmps)=true then Oper.wp P oi a w K Q else K (a.put N undef) w:=goes_ hf hname hb args hw hN hop hargs h
theorem gl {rest:List Oper} (N:Option Tmp) {f:FuncId} {fn:Func} {as:Array Operand} {ts:Array TypeId} (hf:P.funcs[f]? = some fn) (args:Array Value)
    (h:Calls P f args w fun e w'=>∃ v,e = .returned v∧wpList P ops Q rest (a.put N v) w') (hd:oi.dst=N:=by rfl) (hg:oi.guard=none:=by rfl) (hname:(fn.name == "runtime.NumGoroutine")=false:=by kernel_rfl) (hb:fn.body.isSome=true:=by rfl) (hop:oi.op = .call { callee := .value (.func f),args:=as,argTypes:=ts }:=by rfl) (hargs:as.map a.eval=args:=by ((try simp only [List.map_toArray,List.map_cons,List.map_nil]);first | done | rfl | (simp only [List.length_drop,List.length_take];rfl))) :
    wpList P ops Q (oi::rest) a w:=goesL_ N hd hg hf hname hb args hop hargs h
theorem be {rest:List Oper} (N:Tmp) (cs:Array Value) (t:TypeId)
    (h:∀ g,g=w.heap.size→∀ w1,w1.heap[g]? = some (.cells cs t (0,0))→Below w.heap.size w w1→wpList P ops Q rest (a.put oi.dst (.pointer (some ⟨g,0,none⟩))) w1) (hgd:oi.guard=none:=by rfl) (hd:oi.dst=some N:=by rfl)
    (hrun:(execOp a.eval oi).run P w = .ok (.value (.pointer (some ⟨w.heap.size,0,none⟩))) (w.alloc (.cells cs t (0,0))):=by first | (go_simp;done) | (go_simp;rfl)):wpList P ops Q (oi::rest) a w:=box_event hgd hd hrun h
end
end Go.Proofs.YtgklmafdbgnohaaGreat.Z
