/- Short forms for tests and calls in the walks. No condition. -/
import Derived.Test.YtgklmafdbgnohaaGreatXZCx5
set_option linter.unusedVariables false
set_option linter.unusedSimpArgs false
namespace Go.Proofs.YtgklmafdbgnohaaGreat.Z
open Go.RowKit Go.Proofs.YtgklmafdbgnohaaGreatW.PrintWords Go.Proofs.YtgklmafdbgnohaaGreatW.PrintLast Go.Proofs.YtgklmafdbgnohaaGreatW.PrintMore
section
variable {α β:Type} {c:Prop} [Decidable c] {a b:Option α} {r:α} {o:Option α}
theorem sd (h:(if c then a else b)=o):(c∧decide c=true∧a=o)∨(¬ c∧decide c=false∧b=o):=by
  by_cases hc:c
  · exact Or.inl ⟨hc,decide_eq_true hc,by rwa [if_pos hc] at h⟩
  · exact Or.inr ⟨hc,decide_eq_false hc,by rwa [if_neg hc] at h⟩
theorem td (h:(if c then a else b)=o):(decide c=true∧a=o)∨(decide c=false∧b=o):=(sd h).imp (·.2) (·.2)
theorem sn (h:(if c then a else none)=some r):c∧decide c=true∧a=some r:=(sd h).elim id fun x=>nomatch x.2.2
theorem so (h:(if c then none else b)=some r):¬ c∧decide c=false∧b=some r:=(sd h).elim (fun x=>nomatch x.2.2) id
theorem tn (h:(if c then a else none)=some r):decide c=true∧a=some r:=(sn h).2
theorem ty (h:(if c then none else b)=some r):decide c=false∧b=some r:=(so h).2
variable [BEq β] [LawfulBEq β] {x y:β} [Decidable (x=y)]
theorem ed (h:(if x=y then a else b)=o):(x=y∧(x==y)=true∧(x != y)=false∧a=o)∨(x≠y∧(x==y)=false∧(x != y)=true∧b=o) :=
  (sd h).imp (fun z=>⟨z.1,beq_iff_eq.2 z.1,bne_eq_false_iff_eq.2 z.1,z.2.2⟩) (fun z=>⟨z.1,beq_eq_false_iff_ne.2 z.1,bne_iff_ne.2 z.1,z.2.2⟩)
theorem eo (h:(if x=y then none else b)=some r):x≠y∧(x==y)=false∧(x != y)=true∧b=some r:=(ed h).elim (fun z=>nomatch z.2.2.2) id
end
section
variable {α:Type} {t:Bool} {a b:Option α} {r:α} {o:Option α}
theorem ud (h:(if t=true then a else b)=o):(t=true∧a=o)∨(t=false∧b=o):=by cases t<;>simpa using h
end
theorem vq {α:Type} {d:Kd α} {e base:Nat} {w W:World} {ok:Nat→Prop} {v:Value} {xs:List α} (h:Aside0 (d.V e w base ok v xs)) (t:d.V e w base ok v xs→d.V e W base ok v xs:=by
    (intro hq_;(with_reducible repeat (first | apply Kd.V_alloc | apply Kd.V_drewN | apply Kd.V_drew));exact hq_)):d.V e W base ok v xs:=t h.out
theorem vr {α:Type} {d:Kd α} {e base:Nat} {w W:World} {ok:Nat→Prop} {v:Value} {xs:List α} (h:d.V e w base ok v xs) (t:d.V e w base ok v xs→d.V e W base ok v xs:=by
    (intro hq_;(with_reducible repeat (first | apply Kd.V_alloc | apply Kd.V_drewN | apply Kd.V_drew));exact hq_)):d.V e W base ok v xs:=t h
theorem sv {α:Type} {d:Kd α} {e base n c:Nat} {w W:World} {ok:Nat→Prop} {A:Option Addr} {xs:List α} (h:Aside0 (d.V e w base ok (.slice A n c) xs)) (t:d.C w A xs.length xs→d.C W A xs.length xs:=by
    (intro hq_;repeat (first | exact hq_ | (with_reducible refine Kd.C_alloc ?_ _) | (with_reducible refine Kd.C_drewN ?_ _) | (with_reducible refine Kd.C_drew ?_)))):d.C W A xs.length xs:=t (Kd.V_reads' h.out).2.2
theorem d0 {w W:World} (h:Drawn0 w W:=by repeat (first | exact Drawn0.refl _ | apply Drawn0.step)):Drawn0 w W:=h
theorem cf {a:Addr} {v:Value} {w W:World} (h:w.cell? a=some v) (t:w.cell? a=some v→W.cell? a=some v:=by
    (intro hq_;repeat (first | with_reducible exact hq_ | with_reducible exact (hc HB hq_) | refine (cell_far (by first | with_reducible exact Aside0.out (by assumption) | exact Nat.ne_of_lt (Nat.lt_of_lt_of_le (by have:=World.block_lt_of_cell? _ _ hq_;first | (with_reducible assumption) | rwa [add_block] at this | exact this) (Aside0.out (by with_reducible assumption))) | (rw [add_block];exact Nat.ne_of_lt (Nat.lt_of_lt_of_le (by have:=World.block_lt_of_cell? _ _ hq_;first | (with_reducible assumption) | rwa [add_block] at this | exact this) (Aside0.out (by with_reducible assumption)))) | (show (Addr.add _ _).block≠_;rw [add_block];exact Nat.ne_of_lt (Nat.lt_of_lt_of_le (by have:=World.block_lt_of_cell? _ _ hq_;first | (with_reducible assumption) | rwa [add_block] at this | exact this) (Aside0.out (by with_reducible assumption)))) | (dsimp only;exact Nat.ne_of_lt (Nat.lt_of_lt_of_le (by have:=World.block_lt_of_cell? _ _ hq_;first | (with_reducible assumption) | rwa [add_block] at this | exact this) (Aside0.out (by with_reducible assumption)))) | exact Aside0.out (by assumption)) _).trans ?_))):W.cell? a=some v:=t h
theorem cg {a b:Addr} {u v:Value} {w w1 W:World} (h:w.cell? a=some v) (k:w1.cell? b=some u) (t:w.cell? a=some v→w1.cell? b=some u→W.cell? a=some v:=by
    (intro hq_ hr_;repeat (first | with_reducible exact hq_ | with_reducible exact (hc HB hq_) | refine (cell_far (by first | with_reducible exact Aside0.out (by assumption) | exact Nat.ne_of_lt (Nat.lt_of_lt_of_le (by have:=World.block_lt_of_cell? _ _ hr_;first | (with_reducible assumption) | rwa [add_block] at this | exact this) (Aside0.out (by with_reducible assumption))) | (rw [add_block];exact Nat.ne_of_lt (Nat.lt_of_lt_of_le (by have:=World.block_lt_of_cell? _ _ hr_;first | (with_reducible assumption) | rwa [add_block] at this | exact this) (Aside0.out (by with_reducible assumption)))) | (show (Addr.add _ _).block≠_;rw [add_block];exact Nat.ne_of_lt (Nat.lt_of_lt_of_le (by have:=World.block_lt_of_cell? _ _ hr_;first | (with_reducible assumption) | rwa [add_block] at this | exact this) (Aside0.out (by with_reducible assumption)))) | (dsimp only;exact Nat.ne_of_lt (Nat.lt_of_lt_of_le (by have:=World.block_lt_of_cell? _ _ hr_;first | (with_reducible assumption) | rwa [add_block] at this | exact this) (Aside0.out (by with_reducible assumption)))) | exact Aside0.out (by assumption)) _).trans ?_))):W.cell? a=some v:=t h k
section
variable {P:Program} {ops:Array Oper} {Q:Exit→Act→World→Prop} {a:Act} {w:World} {oi:Oper}
theorem gc {rest:List Oper} (f:FuncId) {as:Array Operand} {ts:Array TypeId} (_:oi.op = .call { callee := .value (.func f),args:=as,argTypes:=ts }) (h:wpList P ops Q (oi::rest) a w):wpList P ops Q (oi::rest) a w:=h
theorem gd {rest:List Oper} (N:Tmp) (_:oi.dst=some N) (h:wpList P ops Q (oi::rest) a w):wpList P ops Q (oi::rest) a w:=h
theorem gm {rest:List Oper} (N:Option Tmp) {f:FuncId} {fn:Func} {as:Array Operand} {ts:Array TypeId} {args:Array Value} {R:Ending→World→Prop} (hf:P.funcs[f]? = some fn) (hc:Calls P f args w R)
    (h:∀ e w',R e w'→∃ v,e = .returned v∧wpList P ops Q rest (a.put N v) w') (hop:oi.op = .call { callee := .value (.func f),args:=as,argTypes:=ts }:=by rfl) (hd:oi.dst=N:=by rfl) (hg:oi.guard=none:=by rfl) (hname:(fn.name == "runtime.NumGoroutine")=false:=by kernel_rfl) (hb:fn.body.isSome=true:=by rfl) (hargs:as.map a.eval=args:=by ((try simp only [List.map_toArray,List.map_cons,List.map_nil]);first | done | rfl | (simp only [List.length_drop,List.length_take];rfl))) :
    wpList P ops Q (oi::rest) a w:=gl N hf args (hc.mono fun e w' x=>h e w' x) hd hg hname hb hop hargs
theorem gy {rest:List Oper} (N:Option Tmp) {f:FuncId} {fn:Func} {as:Array Operand} {ts:Array TypeId} {args:Array Value} {v:Value} {R:World→Prop} (hf:P.funcs[f]? = some fn) (hc:Calls P f args w fun e w'=>e = .returned v∧R w')
    (h:∀ w',R w'→wpList P ops Q rest (a.put N v) w') (hop:oi.op = .call { callee := .value (.func f),args:=as,argTypes:=ts }:=by rfl) (hd:oi.dst=N:=by rfl) (hg:oi.guard=none:=by rfl) (hname:(fn.name == "runtime.NumGoroutine")=false:=by kernel_rfl) (hb:fn.body.isSome=true:=by rfl) (hargs:as.map a.eval=args:=by ((try simp only [List.map_toArray,List.map_cons,List.map_nil]);first | done | rfl | (simp only [List.length_drop,List.length_take];rfl))) :
    wpList P ops Q (oi::rest) a w:=gl N hf args (hc.mono fun e w' x=>⟨v,x.1,h w' x.2⟩) hd hg hname hb hop hargs
theorem gx {rest:List Oper} (N:Option Tmp) {f:FuncId} {fn:Func} {as:Array Operand} {ts:Array TypeId} {args:Array Value} {τ:Sort _} {F:τ→Value} {R:τ→World→Prop} (hf:P.funcs[f]? = some fn) (hc:Calls P f args w fun e w'=>∃ v,e = .returned (F v)∧R v w')
    (h:∀ v w',R v w'→wpList P ops Q rest (a.put N (F v)) w') (hop:oi.op = .call { callee := .value (.func f),args:=as,argTypes:=ts }:=by rfl) (hd:oi.dst=N:=by rfl) (hg:oi.guard=none:=by rfl) (hname:(fn.name == "runtime.NumGoroutine")=false:=by kernel_rfl) (hb:fn.body.isSome=true:=by rfl) (hargs:as.map a.eval=args:=by ((try simp only [List.map_toArray,List.map_cons,List.map_nil]);first | done | rfl | (simp only [List.length_drop,List.length_take];rfl))) :
    wpList P ops Q (oi::rest) a w:=gl N hf args (hc.mono fun e w' ⟨v,x,y⟩=>⟨F v,x,h v w' y⟩) hd hg hname hb hop hargs
theorem bf {rest:List Oper} (N:Tmp) (cs:Array Value) (t:TypeId) {w0:World}
    (h:∀ g w1,g=w.heap.size→Below w.heap.size w w1→Aside0 (Below w0.heap.size w0 w1)→Aside0 (w1.heap[g]? = some (.cells cs t (0,0)))→Aside0 (w0.heap.size≤g)→wpList P ops Q rest (a.put oi.dst (.pointer (some ⟨g,0,none⟩))) w1) (hgd:oi.guard=none:=by rfl) (hd:oi.dst=some N:=by rfl)
    (hrun:(execOp a.eval oi).run P w = .ok (.value (.pointer (some ⟨w.heap.size,0,none⟩))) (w.alloc (.cells cs t (0,0))):=by first | (go_simp;done) | (go_simp;rfl))
    (hB:Below w0.heap.size w0 w:=by repeat (first | (with_reducible first | exact HB.out | apply below_alloc | apply pw_below_drewN | apply below_drew1 | refine below_set ?_ (Aside0.out (by assumption)) | refine below_set ?_ (by assumption)) | exact HB.out)):wpList P ops Q (oi::rest) a w :=
  be N cs t (fun g hg w1 hbox hb=>h g w1 hg hb ⟨below_step hB hb⟩ ⟨hbox⟩ ⟨by rw [hg];exact below_size hB⟩) hgd hd hrun
theorem bd {rest:List Oper} (N:Tmp) (cs:Array Value) (t:TypeId) {w0:World}
    (h:∀ g w1,Aside0 (Below w0.heap.size w0 w1)→Aside0 (w1.heap[g]? = some (.cells cs t (0,0)))→Aside0 (w0.heap.size≤g)→wpList P ops Q rest (a.put oi.dst (.pointer (some ⟨g,0,none⟩))) w1) (hgd:oi.guard=none:=by rfl) (hd:oi.dst=some N:=by rfl)
    (hrun:(execOp a.eval oi).run P w = .ok (.value (.pointer (some ⟨w.heap.size,0,none⟩))) (w.alloc (.cells cs t (0,0))):=by first | (go_simp;done) | (go_simp;rfl))
    (hB:Below w0.heap.size w0 w:=by repeat (first | (with_reducible first | exact HB.out | apply below_alloc | apply pw_below_drewN | apply below_drew1 | refine below_set ?_ (Aside0.out (by assumption)) | refine below_set ?_ (by assumption)) | exact HB.out)):wpList P ops Q (oi::rest) a w :=
  bf N cs t (fun g w1 _ _=>h g w1) hgd hd hrun hB
end
end Go.Proofs.YtgklmafdbgnohaaGreat.Z
