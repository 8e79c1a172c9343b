/- Contracts of the program's and the reference's functions (they began as prints of the kit's tool; shortened and joined). No condition beside what the Lean functions say. -/
import Derived.Test.YtjelgpmhbaiipaaGreatDoorLG9
import Derived.Test.YtjelgpmhbaiipaaGreatDoorLQ28
import Derived.Test.YtjelgpmhbaiipaaGreatDoorLZCy2
import Derived.Test.YtjelgpmhbaiipaaGreatDoorLG12
import Derived.Test.YtjelgpmhbaiipaaGreatDoorLS27
import Derived.Test.YtjelgpmhbaiipaaGreatDoorLS19
section
namespace Go.Proofs.YtjelgpmhbaiipaaGreatDoor.PA
open Go.RowKit Go.Proofs.YtjelgpmhbaiipaaGreatDoor.Q Go.Proofs.YtjelgpmhbaiipaaGreatDoorW.PrintWords Go.Proofs.YtjelgpmhbaiipaaGreatDoorW.PrintLast Go.Proofs.YtjelgpmhbaiipaaGreatDoorW.PrintMore Go.Proofs.YtjelgpmhbaiipaaGreatDoor.Z
attribute [local go_sem] max2_int min2_int max_two min_two max_three min_three max_four min_four
set_option linter.unusedVariables false
set_option linter.unusedSimpArgs false
set_option maxHeartbeats 8000000
set_option maxRecDepth 100000
structure DD (w0 w : World) (g : Nat) (b : List Int) (R : Nat) (W : World) : Prop where
  i : ∃ p : Int, 0 ≤ p ∧ p + R ≤ 990000 ∧ IsS77 w0 W g b p
  e : Below w0.heap.size w0 W
  k : KeepBut w W g none
  z : w0.heap.size ≤ w.heap.size
  h : Bs b
section
variable {w0 w W W1 w1 : World} {g gb : Nat} {b : List Int} {R R' : Nat} {α : Type} {d : Kd α} {e base : Nat} {ok : Nat → Prop} {v : Value} {xs : List α} {o : Obj}
theorem DD.below (h : DD w0 w g b R W) (hb : Below W.heap.size W W1) : DD w0 w g b R W1 := ⟨h.i.imp fun _ x => ⟨x.1, x.2.1, x.2.2.below hb⟩, below_step h.e hb, h.k.trans (KeepBut.of_below hb g none) (.inl rfl), h.z, h.h⟩
theorem DD.alloc (h : DD w0 w g b R W) (o : Obj) : DD w0 w g b R (W.alloc o) := h.below (below_alloc (Below.refl _ _) o)
theorem DD.drewN (h : DD w0 w g b R W) (m : Nat) : DD w0 w g b R (W.drewN m) := ⟨h.i, pw_below_drewN h.e m, keep_drewN h.k m, h.z, h.h⟩
theorem DD.drew (h : DD w0 w g b R W) : DD w0 w g b R W.drew := ⟨h.i, below_drew1 h.e, keep_drew h.k, h.z, h.h⟩
theorem DD.far (h : DD w0 w g b R W) {j : Nat} (h1 : g ≠ gb) (h2 : w.heap.size ≤ gb) (u : Value) : DD w0 w g b R (W.setCell ⟨gb, j, none⟩ u) := ⟨h.i.imp fun _ x => ⟨x.1, x.2.1, x.2.2.far h1 u⟩, below_set h.e (Nat.le_trans h.z h2), keep_far h.k h2 u, h.z, h.h⟩
theorem DD.app (h : DD w0 w g b R W) (ho : d.R e W w.heap.size ok v xs) (hg : W.grownBy W1 v.ownBlock) (hb : Below w.heap.size W W1) (ht : e ≠ 77 := by decide) : Aside0 (DD w0 w g b R W1) := ⟨h.i.imp fun _ x => ⟨x.1, x.2.1, x.2.2.grown hg (x.2.2.own_ne ho ht)⟩, below_weaken h.e h.z hb, h.k.trans (KeepBut.of_grown hg g) (Kd.R_base2 ho), h.z, h.h⟩
theorem dq (h : Aside0 (DD w0 w g b R w1)) (t : DD w0 w g b R w1 → DD w0 w g b R W := by
    (intro hq_; (repeat (first | (with_reducible first | exact hq_ | apply DD.alloc | apply DD.drewN | apply DD.drew | refine DD.far ?_ (Aside0.out (by assumption)) (Aside0.out (by assumption)) _) | exact hq_)))) : DD w0 w g b R W := t h.out
theorem dt (h : DD w0 w g b R W) (k : DD w0 W g b R' W1) : Aside0 (DD w0 w g b R' W1) := ⟨k.i, k.e, h.k.trans k.k (.inl rfl), h.z, h.h⟩
theorem DD.less (h : DD w0 w g b R W) (hm : R' ≤ R := by omega) : DD w0 w g b R' W := ⟨h.i.imp fun _ x => ⟨x.1, by have := x.2.1; omega, x.2.2⟩, h.e, h.k, h.z, h.h⟩
theorem DD.start (h : DD w0 w g b R W) : Aside0 (DD w0 W g b R W) := ⟨h.i, h.e, KeepBut.refl W g none, h.e.size, h.h⟩
theorem dn (hg : gb = W.heap.size) (h : DD w0 w g b R W) : Aside0 (w.heap.size ≤ gb) ∧ Aside0 (g ≠ gb) ∧ Aside0 (gb ≠ g) := by
  obtain ⟨p, _, _, hi⟩ := h.i
  exact ⟨⟨by rw [hg]; exact keep_size h.k⟩, ⟨by rw [hg]; exact Nat.ne_of_lt hi.lt⟩, ⟨by rw [hg]; exact Nat.ne_of_gt hi.lt⟩⟩
theorem dR (h0 : DD w0 w g b R W) (h : d.R e W base ok v xs) (hd : DD w0 W g b R' W1) (ht : ∀ q, q ∈ e :: d.E → q ≠ 77 := by decide) : Aside0 (d.R e W1 base ok v xs) := by
  obtain ⟨p, _, _, hi⟩ := h0.i
  exact ⟨Kd.R_mono (Kd.R_keep (hi.apart h ht) hd.k (fun _ h => h.2)) (fun _ h => h.1)⟩
theorem kp {w w' : World} {g g' : Nat} {t : TypeId} (cs : Array Value) (hk : KeepBut w w' g none) (h : w.heap[g']? = some (.cells cs t (0, 0))) (hne : Aside0 (g' ≠ g)) : Aside0 (w'.heap[g']? = some (.cells cs t (0, 0))) := ⟨KeepBut.blk hk h hne.out (by simp)⟩
theorem rg {r n : Int} (h : Aside0 (0 ≤ r ∧ r < n)) (hn : n ≤ 1000 := by decide) : Rg r := by have := h.out; unfold Rg; omega
theorem rpick (n : Int) (hD : DD w0 w g b (R + 1) W) (hn : 1 ≤ n := by decide) :
    Calls Tryz.prog 13 #[.pointer (some ⟨g, 0, none⟩), .int .i64 n] W fun e w' => ∃ r : Int, e = .returned (.int .i64 r) ∧ Aside0 (0 ≤ r ∧ r < n) ∧ DD w0 W g b R w' := by
  obtain ⟨p, p0, p1, hI⟩ := hD.i
  obtain ⟨r, ⟨k, e⟩, h0, h1⟩ := pick_ev hD.h (p := p) p0 (by omega) n
  exact (spec_l1Rd_pick.calls k g b p n r (p + 1) w0 W hI hD.e (e k (Nat.le_refl _))).mono fun e w' x => ⟨r, x.1, ⟨h0, h1 hn⟩, ⟨p + 1, by omega, by omega, x.2.1⟩, x.2.2.1, x.2.2.2, hD.e.size, hD.h⟩
theorem rof {A : Option Addr} {c : Nat} {l : List ByteArray} (hD : DD w0 w g b (R + 1) W) (hr : Kd.C Kd.string W A l.length l) (hc : l.length ≤ c) (hf : ∀ ad, A = some ad → 0 < l.length → ad.block ≠ g) (hl : 0 < l.length := by decide) :
    Calls Tryz.prog 16 #[.pointer (some ⟨g, 0, none⟩), .slice A l.length c] W fun e w' => ∃ s : ByteArray, e = .returned (.string s) ∧ Aside0 (s ∈ l) ∧ DD w0 W g b R w' := by
  obtain ⟨p, p0, p1, hI⟩ := hD.i
  obtain ⟨s, ⟨k, e⟩, hs⟩ := of_ev hD.h (p := p) p0 (by omega) l hl
  exact (spec_l1Rd_of.calls k g b p A c l s (p + 1) w0 W hI hD.e hr hc hf (e k (Nat.le_refl _))).mono fun e w' x => ⟨s, x.1, ⟨hs⟩, ⟨p + 1, by omega, by omega, x.2.1⟩, x.2.2.1, x.2.2.2, hD.e.size, hD.h⟩
end
theorem gz {P : Program} {ops : Array Oper} {Q : Exit → Act → World → Prop} {a : Act} {w : World} {oi : Oper} {rest : List Oper} (N : Option Tmp) {f : FuncId} {fn : Func} {as_ : Array Operand} {ts : Array TypeId} {args : Array Value} {τ : Sort _} {F : τ → Value} {R : τ → World → Prop} (hf : P.funcs[f]? = some fn) (hc : Calls P f args w fun e w' => ∃ v, e = .returned (F v) ∧ R v w')
    (h : ∀ v w', R v w' → wpList P ops Q rest (a.put N (F v)) w') (hop : oi.op = .call { callee := .value (.func f), args := as_, argTypes := ts } := by rfl) (hd : oi.dst = N := by rfl) (hg : oi.guard = none := by rfl) (hname : (fn.name == "runtime.NumGoroutine") = false := by kernel_rfl) (hbd : fn.body.isSome = true := by rfl) (hargs : as_.map a.eval = args := by ((try simp only [List.map_toArray, List.map_cons, List.map_nil]); first | rfl | (go_simp; done) | (go_simp; rfl))) :
    wpList P ops Q (oi :: rest) a w := gl N hf args (hc.mono fun e w' ⟨v, x, y⟩ => ⟨F v, x, h v w' y⟩) hd hg hname hbd hop hargs
theorem gt {P : Program} {ops : Array Oper} {Q : Exit → Act → World → Prop} {a : Act} {w : World} {oi : Oper} {N : Option Tmp} {K : Act → World → Prop} {f : FuncId} {fn : Func} {as_ : Array Operand} {ts : Array TypeId} {args : Array Value} {τ : Sort _} {F : τ → Value} {R : τ → World → Prop} (hf : P.funcs[f]? = some fn) (hc : Calls P f args w fun e w' => ∃ v, e = .returned (F v) ∧ R v w')
    (h : ∀ v w', R v w' → K (a.put N (F v)) w') (hname : (fn.name == "runtime.NumGoroutine") = false := by kernel_rfl) (hbd : fn.body.isSome = true := by rfl) (hw : Region.wanted oi (yielded ops a.tmps) = true := by rfl) (hd : oi.dst = N := by rfl) (hop : oi.op = .call { callee := .value (.func f), args := as_, argTypes := ts } := by rfl) (hargs : as_.map a.eval = args := by ((try simp only [List.map_toArray, List.map_cons, List.map_nil]); first | done | rfl | (simp only [List.length_drop, List.length_take]; rfl))) :
    if Region.wanted oi (yielded ops a.tmps) = true then Oper.wp P oi a w K Q else K (a.put N undef) w := gs hf args (hc.mono fun e w' ⟨v, x, y⟩ => ⟨F v, x, h v w' y⟩) hname hbd hw hd hop hargs
theorem sw3 (r : Int) : (r == 0) = true ∨ ((r == 0) = false ∧ (r == 1) = true) ∨ ((r == 0) = false ∧ (r == 1) = false ∧ (r == 2) = true) ∨ ((r == 0) = false ∧ (r == 1) = false ∧ (r == 2) = false) := by
  simp only [beq_iff_eq, beq_eq_false_iff_ne]
  omega
theorem rbox {w0 w W : World} {g : Nat} {b : List Int} {R : Nat} (hD : DD w0 w g b (R + 10) W) :
    Calls Tryz.prog 65 #[.pointer (some ⟨g, 0, none⟩)] W fun e w' => ∃ x : S46, e = .returned (.agg #[.int .i64 x.f0, .int .i64 x.f1, .int .i64 x.f2, .int .i64 x.f3, .int .i64 x.f4, .int .i64 x.f5]) ∧ Aside0 (Wf x) ∧ DD w0 W g b R w' := by
  have HD := hD.start
  clear hD
  go_enter Tryz.func65, Tryz.ntmps65
  try go_wp2_with (first | ((with_reducible refine gd 2 rfl ?_); refine be 2 #[.int .i64 0, .int .i64 0, .int .i64 0, .int .i64 0, .int .i64 0, .int .i64 0] 46 ?_; intro g1 hg w_ hbox hb_; have H1 := ra hbox; obtain ⟨Ag1, Bg1, Cg1⟩ := dn hg (dq HD); replace HD := ra ((dq HD).below hb_); clear hb_ hbox hg) | ((with_reducible refine gd 5 rfl ?_); refine gz (some 5) Tryz.func13 (rpick 6 (dq HD)) ?_; rintro r0 w_ ⟨Rr0, hd⟩; replace H1 := kv hd.k (bk H1) Cg1; replace HD := dt (dq HD) hd; clear hd) | ((with_reducible refine gd 7 rfl ?_); refine gz (some 7) Tryz.func13 (rpick 6 (dq HD)) ?_; rintro r1 w_ ⟨Rr1, hd⟩; replace H1 := kv hd.k (bk H1) Cg1; replace HD := dt (dq HD) hd; clear hd) | ((with_reducible refine gd 9 rfl ?_); refine gz (some 9) Tryz.func13 (rpick 3 (dq HD)) ?_; rintro r2 w_ ⟨Rr2, hd⟩; replace H1 := kv hd.k (bk H1) Cg1; replace HD := dt (dq HD) hd; clear hd) | ((with_reducible refine gd 11 rfl ?_); refine gz (some 11) Tryz.func13 (rpick 60 (dq HD)) ?_; rintro r3 w_ ⟨Rr3, hd⟩; replace H1 := kv hd.k (bk H1) Cg1; replace HD := dt (dq HD) hd; clear hd) | ((with_reducible refine gd 3 rfl ?_); refine be 3 #[.int .i64 0, .int .i64 0, .int .i64 0, .int .i64 0, .int .i64 0, .int .i64 0] 46 ?_; intro g2 hg w_ hbox hb_; have H2 := ra hbox; obtain ⟨Ag2, Bg2, Cg2⟩ := dn hg (dq HD); have Ng1g2 := bn hg (bk H1); have Ng2g1 := bm hg (bk H1); replace H1 := bb (bk H1) hb_; replace HD := ra ((dq HD).below hb_); clear hb_ hbox hg; have := Ng2g1.out; have := Ng1g2.out; have := Bg2.out; have := Cg2.out; obtain ⟨_, _, _, _, _, _, _, _, _, _, _, _⟩ := zc6 H2))
  refine start_ (n := 7) (S := fun w' => w'.cell? ⟨g2, 2, none⟩ = some (.int .i64 r2)) (ds := [6]) #[false, false, false, false, false, false, false] (by kernel_rfl) rfl rfl ?_ (fun hHeld => ?_)
  · exact (blk_cell (bp (cs2 := #[.int .i64 r0, .int .i64 r1, .int .i64 r2, .int .i64 0, .int .i64 r3, .int .i64 0]) H2) 2).trans rfl
  refine pu 0 13 (bl 7 1) ?_
  refine pu 2 15 (bl 7 5) ?_
  refine tk 1 14 (bl 7 7) ?_ hHeld
  refine oe 3 16 (bl 7 15) (fun K hK => ?_)
  refine gt Tryz.func13 (rpick 3 (dq HD)) ?_
  rintro r16 w_ ⟨Rr16, hd⟩
  (replace H1 := kv hd.k (bk H1) Cg1; replace H2 := kp #[.int .i64 r0, .int .i64 r1, .int .i64 r2, .int .i64 0, .int .i64 r3, .int .i64 0] hd.k (bp H2) Cg2; replace HD := dt (dq HD) hd; clear hd)
  refine hK.out _ _ ((blk_cell H2.out 2).trans rfl) (fun hHeld => ?_)
  clear hK K
  refine nm 16 ?_
  refine pu 4 17 (bl 7 31) ?_
  refine pu 5 18 (bl 7 63) ?_
  refine last_ (i := 6) (N := none) #[true, true, true, true, true, true, true] rfl rfl (by kernel_rfl) (by decide) (fun K hK => ?_)
  obtain ⟨_, _, _, _, _, _, _, _, _, _, _, _⟩ := zc6 H2
  refine skip_ (w1 := ?_) (by rfl) rfl ?_ ?_
  rotate_left
  · go_simp
    rfl
  refine hK.out _ _ ?_
  clear hK K
  refine done_ (by kernel_rfl) ?_
  try go_wp2
  refine start_ (n := 7) (S := fun w' => w'.cell? ⟨g2, 4, none⟩ = some (.int .i64 r3)) (ds := [6]) #[false, false, false, false, false, false, false] (by kernel_rfl) rfl rfl ?_ (fun hHeld => ?_)
  · exact (blk_cell (bp (cs2 := #[.int .i64 r0, .int .i64 r1, .int .i64 r2, .int .i64 (wrap64 (r2 + r16)), .int .i64 r3, .int .i64 0]) H2) 4).trans rfl
  refine pu 0 19 (bl 7 1) ?_
  refine pu 2 21 (bl 7 5) ?_
  refine tk 1 20 (bl 7 7) ?_ hHeld
  refine oe 3 22 (bl 7 15) (fun K hK => ?_)
  refine gt Tryz.func13 (rpick 20 (dq HD)) ?_
  rintro r22 w_ ⟨Rr22, hd⟩
  (replace H1 := kv hd.k (bk H1) Cg1; replace H2 := kp #[.int .i64 r0, .int .i64 r1, .int .i64 r2, .int .i64 (wrap64 (r2 + r16)), .int .i64 r3, .int .i64 0] hd.k (bp H2) Cg2; replace HD := dt (dq HD) hd; clear hd)
  refine hK.out _ _ ((blk_cell H2.out 4).trans rfl) (fun hHeld => ?_)
  clear hK K
  refine nm 22 ?_
  refine pu 4 23 (bl 7 31) ?_
  refine pu 5 24 (bl 7 63) ?_
  refine last_ (i := 6) (N := none) #[true, true, true, true, true, true, true] rfl rfl (by kernel_rfl) (by decide) (fun K hK => ?_)
  obtain ⟨_, _, _, _, _, _, _, _, _, _, _, _⟩ := zc6 H2
  refine skip_ (w1 := ?_) (by rfl) rfl ?_ ?_
  rotate_left
  · go_simp
    rfl
  refine hK.out _ _ ?_
  clear hK K
  refine done_ (by kernel_rfl) ?_
  go_wp2_with (first | ((with_reducible refine gd 26 rfl ?_); refine gz (some 26) Tryz.func13 (rpick 24 (dq HD)) ?_; rintro r26 w_ ⟨Rr26, hd⟩; replace H1 := kv hd.k (bk H1) Cg1; replace H2 := kp #[.int .i64 r0, .int .i64 r1, .int .i64 r2, .int .i64 (wrap64 (r2 + r16)), .int .i64 r3, .int .i64 (wrap64 (r3 + r22))] hd.k (bp H2) Cg2; replace HD := dt (dq HD) hd; clear hd; obtain ⟨_, _, _, _, _, _, _, _, _, _, _, _⟩ := zc6 H2; obtain ⟨_, _, _, _, _, _, _, _, _, _, _, _⟩ := zc6 H1; have := Bg1.out; have := Cg1.out; rcases sw3 r26 with c1 | ⟨c1, c2⟩ | ⟨c1, c2, c3⟩ | ⟨c1, c2, c3⟩) | ((with_reducible refine gd 30 rfl ?_); refine gz (some 30) Tryz.func13 (rpick 2 (dq HD)) ?_; rintro r30 w_ ⟨Rr30, hd⟩; replace H1 := kv hd.k (bk H1) Cg1; replace H2 := kp #[.int .i64 r0, .int .i64 r1, .int .i64 r2, .int .i64 (wrap64 (r2 + r16)), .int .i64 r3, .int .i64 (wrap64 (r3 + r22))] hd.k (bp H2) Cg2; replace HD := dt (dq HD) hd; clear hd; obtain ⟨_, _, _, _, _, _, _, _, _, _, _, _⟩ := zc6 H2; obtain ⟨_, _, _, _, _, _, _, _, _, _, _, _⟩ := zc6 H1; have := Bg1.out; have := Cg1.out) | ((with_reducible refine gd 37 rfl ?_); refine gz (some 37) Tryz.func13 (rpick 9 (dq HD)) ?_; rintro r37 w_ ⟨Rr37, hd⟩; replace H1 := kv hd.k (bk H1) Cg1; replace H2 := kp #[.int .i64 r0, .int .i64 r1, .int .i64 r2, .int .i64 (wrap64 (r2 + r16)), .int .i64 r3, .int .i64 10000] hd.k (bp H2) Cg2; replace HD := dt (dq HD) hd; clear hd; obtain ⟨_, _, _, _, _, _, _, _, _, _, _, _⟩ := zc6 H2; obtain ⟨_, _, _, _, _, _, _, _, _, _, _, _⟩ := zc6 H1; have := Bg1.out; have := Cg1.out))
  · refine bodyPost_ret (results_cell_row rfl _ _ g1 46 #[.int .i64 (wrap64 (15 - r30)), .int .i64 r1, .int .i64 r2, .int .i64 (wrap64 (r2 + r16)), .int .i64 r3, .int .i64 (wrap64 (r3 + r22))] (0, 0) _ rfl (bp H1) Tryz.underlying46 rfl (by kernel_rfl)) rfl ?_
    exact ⟨⟨_, _, _, _, _, _⟩, rfl, ⟨by refine ⟨?_, ?_, ?_, ?_, ?_, ?_⟩ <;> first | exact wR _ | exact rg (by assumption) | (dsimp only [Rg]; omega)⟩, (dq HD).less⟩
  · refine bodyPost_ret (results_cell_row rfl _ _ g1 46 #[.int .i64 r0, .int .i64 r1, .int .i64 r2, .int .i64 (wrap64 (r2 + r16)), .int .i64 (wrap64 (10000 - r37)), .int .i64 10000] (0, 0) _ rfl (bp H1) Tryz.underlying46 rfl (by kernel_rfl)) rfl ?_
    exact ⟨⟨_, _, _, _, _, _⟩, rfl, ⟨by refine ⟨?_, ?_, ?_, ?_, ?_, ?_⟩ <;> first | exact wR _ | exact rg (by assumption) | (dsimp only [Rg]; omega)⟩, (dq HD).less⟩
  · refine bodyPost_ret (results_cell_row rfl _ _ g1 46 #[.int .i64 r0, .int .i64 r1, .int .i64 r2, .int .i64 6, .int .i64 r3, .int .i64 (wrap64 (r3 + r22))] (0, 0) _ rfl (bp H1) Tryz.underlying46 rfl (by kernel_rfl)) rfl ?_
    exact ⟨⟨_, _, _, _, _, _⟩, rfl, ⟨by refine ⟨?_, ?_, ?_, ?_, ?_, ?_⟩ <;> first | exact wR _ | exact rg (by assumption) | (dsimp only [Rg]; omega)⟩, (dq HD).less⟩
  refine bodyPost_ret (results_cell_row rfl _ _ g1 46 #[.int .i64 r0, .int .i64 r1, .int .i64 r2, .int .i64 (wrap64 (r2 + r16)), .int .i64 r3, .int .i64 (wrap64 (r3 + r22))] (0, 0) _ rfl (bp H1) Tryz.underlying46 rfl (by kernel_rfl)) rfl ?_
  exact ⟨⟨_, _, _, _, _, _⟩, rfl, ⟨by refine ⟨?_, ?_, ?_, ?_, ?_, ?_⟩ <;> first | exact wR _ | exact rg (by assumption) | (dsimp only [Rg]; omega)⟩, (dq HD).less⟩
section
variable {P : Program} {ops : Array Oper} {Q : Exit → Act → World → Prop} {a : Act} {W : World} {o : Oper} {T : Nat} {n : Nat}
theorem ilit {rest : List Oper} (N : Tmp) {xs : List Int} (h : ∀ (y : List Int) (v : Value) w1, Aside0 (y = xs) → Aside0 (Kd.R (Kd.int .i64) T w1 W.heap.size (fun _ => True) v y) → Below W.heap.size W w1 → wpList P ops Q rest (a.put o.dst v) w1) (hgd : o.guard = none := by rfl) (hd : o.dst = some N := by rfl)
    (hrun : (execOp a.eval o).run P W = .ok (.value (.slice (some ⟨W.heap.size, 0, none⟩) xs.length xs.length)) (W.alloc (.cells (encs (Value.int .i64) xs).toArray T)) := by first | (go_simp; done) | (go_simp; rfl)) (hl : xs.length ≤ 1000 := by simp) : wpList P ops Q (o :: rest) a W :=
  Kd.R_lit (Kd.int .i64) W.heap.size T hgd hd (ok := fun _ => True) (okp := fun _ => True) hrun (Kd.reps_scalar xs) (fun _ hk => hk) trivial (Below.refl _ _) (Nat.le_refl _) (by omega) fun v w1 hr hb _ _ => h xs v w1 ⟨rfl⟩ ⟨hr⟩ hb
theorem ilits {K : Act → World → Prop} (N : Tmp) {xs : List Int} (h : ∀ (y : List Int) (v : Value) w1, Aside0 (y = xs) → Aside0 (Kd.R (Kd.int .i64) T w1 W.heap.size (fun _ => True) v y) → Below W.heap.size W w1 → K (a.put o.dst v) w1) (hw : Region.wanted o (yielded ops a.tmps) = true := by rfl) (hd : o.dst = some N := by rfl)
    (hrun : (execOp a.eval o).run P W = .ok (.value (.slice (some ⟨W.heap.size, 0, none⟩) xs.length xs.length)) (W.alloc (.cells (encs (Value.int .i64) xs).toArray T)) := by first | (go_simp; done) | (go_simp; rfl)) (hl : xs.length ≤ 1000 := by simp) : if Region.wanted o (yielded ops a.tmps) = true then Oper.wp P o a W K Q else K (a.put o.dst undef) W :=
  Kd.R_lit_step (Kd.int .i64) W.heap.size T hw hd (ok := fun _ => True) (okp := fun _ => True) hrun (Kd.reps_scalar xs) (fun _ hk => hk) trivial (Below.refl _ _) (Nat.le_refl _) (by omega) fun v w1 hr hb _ _ => h xs v w1 ⟨rfl⟩ ⟨hr⟩ hb
theorem ixi {base : Nat} {ok : Nat → Prop} {v : Value} {y xs : List Int} {t : Int} (h : Kd.R (Kd.int .i64) T W base ok v y) (hy : Aside0 (y = xs)) (hr : Aside0 (0 ≤ t ∧ t < n)) (hl : xs.length = n := by rfl) : ∃ ad c, v = .slice (some ad) y.length c ∧ W.cell? (ad.add t.toNat) = some (.int .i64 (rd y t)) ∧ (0 ≤ t) = True ∧ (t < (y.length : Int)) = True := by
  have hz := hr.out
  obtain ⟨A, c, rfl⟩ := Kd.R_slice h
  have e : y.length = n := by rw [hy.out]; exact hl
  obtain ⟨ad, rfl, hc⟩ := Kd.at_int (Kd.R_reads' h).2.2 t hz.1 (by omega)
  exact ⟨ad, c, rfl, hc, eq_true hz.1, eq_true (by omega)⟩
end
theorem rdy {y xs : List Int} {t : Int} (hy : Aside0 (y = xs)) (h : ∀ x ∈ xs, Rg x := by repeat (first | exact List.forall_mem_nil _ | refine List.forall_mem_cons.2 ⟨by first | exact wR _ | assumption | exact Aside0.out (by assumption) | (unfold Rg; decide), ?_⟩)) : Rg (rd y t) := by
  rw [hy.out]
  exact rdR h t
theorem sw5 (r : Int) : (r == 0) = true ∨ ((r == 0) = false ∧ (r == 1) = true) ∨ ((r == 0) = false ∧ (r == 1) = false ∧ (r == 2) = true) ∨ ((r == 0) = false ∧ (r == 1) = false ∧ (r == 2) = false ∧ (r == 3) = true) ∨ ((r == 0) = false ∧ (r == 1) = false ∧ (r == 2) = false ∧ (r == 3) = false ∧ (r == 4) = true) ∨ ((r == 0) = false ∧ (r == 1) = false ∧ (r == 2) = false ∧ (r == 3) = false ∧ (r == 4) = false) := by
  simp only [beq_iff_eq, beq_eq_false_iff_ne]
  omega
def rspoil.T8 : Bool × List (List Nat × List Nat) := (true, [([], []), ([0], [0]), ([1], [1]), ([], []), ([3], [3]), ([2, 4], [2, 4]), ([], []), ([6], [6]), ([5, 7], [5, 7]), ([8], [8]), ([0, 1, 2, 3, 4, 5, 6, 7, 8, 9], []), ([10, 9, 7, 0, 1, 2, 3, 4, 5, 6, 7, 8, 9], [9, 10])])
def rspoil.B8 : List Nat := [0, 1, 3, 0, 8, 31, 0, 64, 255, 511, 1023, 2047]
theorem rspoil.t8 : rtab .any (opsOf Tryz.f68 8) = rspoil.T8 := by kernel_rfl
theorem rspoil.b8 : waitsOk rspoil.T8.2 rspoil.B8 = true := by kernel_rfl
def rspoil.T12 : Bool × List (List Nat × List Nat) := (true, [([], []), ([0], [0]), ([], []), ([2], [2]), ([3], [3]), ([1, 4], [1, 4]), ([], []), ([6], [6]), ([5, 7], [5, 7]), ([8], [8]), ([0, 1, 2, 3, 4, 5, 6, 7, 8, 9], []), ([10, 9, 7, 0, 1, 2, 3, 4, 5, 6, 7, 8, 9], [9, 10])])
def rspoil.B12 : List Nat := [0, 1, 0, 4, 12, 31, 0, 64, 255, 511, 1023, 2047]
theorem rspoil.t12 : rtab .any (opsOf Tryz.f68 12) = rspoil.T12 := by kernel_rfl
theorem rspoil.b12 : waitsOk rspoil.T12.2 rspoil.B12 = true := by kernel_rfl
theorem rspoil {w0 w W : World} {g : Nat} {b : List Int} {R : Nat} (x : S46) (hx : Wf x) (hD : DD w0 w g b (R + 10) W) :
    Calls Tryz.prog 68 #[.pointer (some ⟨g, 0, none⟩), .agg #[.int .i64 x.f0, .int .i64 x.f1, .int .i64 x.f2, .int .i64 x.f3, .int .i64 x.f4, .int .i64 x.f5]] W fun e w' => ∃ y : S46, e = .returned (.agg #[.int .i64 y.f0, .int .i64 y.f1, .int .i64 y.f2, .int .i64 y.f3, .int .i64 y.f4, .int .i64 y.f5]) ∧ Aside0 (Wf y) ∧ DD w0 W g b R w' := by
  have HD := hD.start
  clear hD
  obtain ⟨x0, x1, x2, x3, x4, x5⟩ := hx
  have X0 := ra x0; have X1 := ra x1; have X2 := ra x2; have X3 := ra x3; have X4 := ra x4; have X5 := ra x5
  clear x0 x1 x2 x3 x4 x5
  go_enter Tryz.func68, Tryz.ntmps68
  go_wp2_with (first | ((with_reducible refine gd 3 rfl ?_); refine be 3 #[.int .i64 x.f0, .int .i64 x.f1, .int .i64 x.f2, .int .i64 x.f3, .int .i64 x.f4, .int .i64 x.f5] 46 ?_; intro g1 hg w_ hbox hb_; have H1 := ra hbox; obtain ⟨Ag1, Bg1, Cg1⟩ := dn hg (dq HD); replace HD := ra ((dq HD).below hb_); clear hb_ hbox hg) | ((with_reducible refine gd 4 rfl ?_); refine be 4 #[.int .i64 0, .int .i64 0, .int .i64 0, .int .i64 0, .int .i64 0, .int .i64 0] 46 ?_; intro g2 hg w_ hbox hb_; have H2 := ra hbox; obtain ⟨Ag2, Bg2, Cg2⟩ := dn hg (dq HD); have Ng1g2 := bn hg (bk H1); have Ng2g1 := bm hg (bk H1); replace H1 := bb (bk H1) hb_; replace HD := ra ((dq HD).below hb_); clear hb_ hbox hg) | ((with_reducible refine gd 6 rfl ?_); refine gz (some 6) Tryz.func13 (rpick 6 (dq HD)) ?_; rintro r6 w_ ⟨Rr6, hd⟩; replace H1 := kv hd.k (bk H1) Cg1; replace H2 := kv hd.k (bk H2) Cg2; replace HD := dt (dq HD) hd; clear hd; obtain ⟨_, _, _, _, _, _, _, _, _, _, _, _⟩ := zc6 H1; obtain ⟨_, _, _, _, _, _, _, _, _, _, _, _⟩ := zc6 H2; have := Ng1g2.out; have := Ng2g1.out; have := Bg1.out; have := Cg1.out; have := Bg2.out; have := Cg2.out; rcases sw5 r6 with c0 | ⟨c0, c1⟩ | ⟨c0, c1, c2⟩ | ⟨c0, c1, c2, c3⟩ | ⟨c0, c1, c2, c3, c4⟩ | ⟨c0, c1, c2, c3, c4⟩) | ((with_reducible refine gd 15 rfl ?_); refine ilit 15 (T := 3) (xs := [-1, 16, -9223372036854775808, 9223372036854775807]) ?_; intro y v w_ hy HO hb_; replace H1 := bb (bk H1) hb_; replace H2 := bb (bk H2) hb_; replace HD := ra ((dq HD).below hb_); clear hb_) | ((with_reducible refine gd 17 rfl ?_); refine gz (some 17) Tryz.func13 (rpick 4 (dq HD)) ?_; rintro r w_ ⟨Rr, hd⟩; replace H1 := kv hd.k (bk H1) Cg1; replace H2 := kv hd.k (bk H2) Cg2; replace HO := dR (dq HD) (rq HO) hd; replace HD := dt (dq HD) hd; clear hd; obtain ⟨_, _, rfl, _, _, _⟩ := ixi HO.out hy Rr; obtain ⟨_, _, _, _, _, _, _, _, _, _, _, _⟩ := zc6 H1; obtain ⟨_, _, _, _, _, _, _, _, _, _, _, _⟩ := zc6 H2; have := Ng1g2.out; have := Ng2g1.out; have := Bg1.out; have := Cg1.out; have := Bg2.out; have := Cg2.out) | ((with_reducible refine gd 23 rfl ?_); refine ilit 23 (T := 3) (xs := [-1, 16]) ?_; intro y v w_ hy HO hb_; replace H1 := bb (bk H1) hb_; replace H2 := bb (bk H2) hb_; replace HD := ra ((dq HD).below hb_); clear hb_) | ((with_reducible refine gd 25 rfl ?_); refine gz (some 25) Tryz.func13 (rpick 2 (dq HD)) ?_; rintro r w_ ⟨Rr, hd⟩; replace H1 := kv hd.k (bk H1) Cg1; replace H2 := kv hd.k (bk H2) Cg2; replace HO := dR (dq HD) (rq HO) hd; replace HD := dt (dq HD) hd; clear hd; obtain ⟨_, _, rfl, _, _, _⟩ := ixi HO.out hy Rr; obtain ⟨_, _, _, _, _, _, _, _, _, _, _, _⟩ := zc6 H1; obtain ⟨_, _, _, _, _, _, _, _, _, _, _, _⟩ := zc6 H2; have := Ng1g2.out; have := Ng2g1.out; have := Bg1.out; have := Cg1.out; have := Bg2.out; have := Cg2.out) | ((with_reducible refine gd 44 rfl ?_); refine ilit 44 (T := 3) (xs := [6, 7]) ?_; intro y v w_ hy HO hb_; replace H1 := bb (bk H1) hb_; replace H2 := bb (bk H2) hb_; replace HD := ra ((dq HD).below hb_); clear hb_) | ((with_reducible refine gd 46 rfl ?_); refine gz (some 46) Tryz.func13 (rpick 2 (dq HD)) ?_; rintro r w_ ⟨Rr, hd⟩; replace H1 := kv hd.k (bk H1) Cg1; replace H2 := kv hd.k (bk H2) Cg2; replace HO := dR (dq HD) (rq HO) hd; replace HD := dt (dq HD) hd; clear hd; obtain ⟨_, _, rfl, _, _, _⟩ := ixi HO.out hy Rr; obtain ⟨_, _, _, _, _, _, _, _, _, _, _, _⟩ := zc6 H1; obtain ⟨_, _, _, _, _, _, _, _, _, _, _, _⟩ := zc6 H2; have := Ng1g2.out; have := Ng2g1.out; have := Bg1.out; have := Cg1.out; have := Bg2.out; have := Cg2.out) | ((with_reducible refine gd 7 rfl ?_); refine ilit 7 (T := 3) (xs := [10000, 10001]) ?_; intro y v w_ hy HO hb_; replace H1 := bb (bk H1) hb_; replace H2 := bb (bk H2) hb_; replace HD := ra ((dq HD).below hb_); clear hb_) | ((with_reducible refine gd 9 rfl ?_); refine gz (some 9) Tryz.func13 (rpick 2 (dq HD)) ?_; rintro r w_ ⟨Rr, hd⟩; replace H1 := kv hd.k (bk H1) Cg1; replace H2 := kv hd.k (bk H2) Cg2; replace HO := dR (dq HD) (rq HO) hd; replace HD := dt (dq HD) hd; clear hd; obtain ⟨_, _, rfl, _, _, _⟩ := ixi HO.out hy Rr; obtain ⟨_, _, _, _, _, _, _, _, _, _, _, _⟩ := zc6 H1; obtain ⟨_, _, _, _, _, _, _, _, _, _, _, _⟩ := zc6 H2; have := Ng1g2.out; have := Ng2g1.out; have := Bg1.out; have := Cg1.out; have := Bg2.out; have := Cg2.out))
  rotate_left 3
  · refine bodyPost_ret (results_cell_row rfl _ _ g2 46 #[.int .i64 x.f0, .int .i64 x.f1, .int .i64 x.f2, .int .i64 (rd y r), .int .i64 x.f4, .int .i64 x.f5] (0, 0) _ rfl (bp H2) Tryz.underlying46 rfl (by kernel_rfl)) rfl ?_
    exact ⟨⟨x.f0, x.f1, x.f2, rd y r, x.f4, x.f5⟩, rfl, ⟨by refine ⟨?_, ?_, ?_, ?_, ?_, ?_⟩ <;> first | exact Aside0.out (by assumption) | exact rdy (by assumption)⟩, (dq HD).less⟩
  · refine start_ (n := 12) (S := fun w' => w'.cell? ⟨g1, 5, none⟩ = some (.int .i64 x.f5)) (ds := [11]) (bl 12 0) (by kernel_rfl) rfl rfl ((blk_cell H1.out 5).trans rfl) (fun hHeld => ?_)
    refine with_tabW rspoil.t12 rspoil.b12 (fun HT_ HW_ => ?_)
    refine pu 0 52 (bl 12 1) ?_
    refine pu 2 54 (bl 12 5) ?_
    refine pu 6 58 (bl 12 69) ?_
    refine tk 1 53 (bl 12 71) ?_ hHeld
    refine tk 3 55 (bl 12 79) ?_ hHeld
    refine pu 4 56 (bl 12 95) ?_
    refine two_ (i := 5) (j := 7) (Ni := some 57) (Nj := some 59) (bl 12 127) (bl 12 223) rfl rfl rfl rfl (two_of HT_.out (by kernel_rfl)) (by decide) (by decide) (fun K hK => ?_) (fun K hK => ?_)
    rotate_left
    refine gt Tryz.func13 (rpick 3 (dq HD)) ?_; rintro r w_ ⟨Rr, hd⟩; replace H1 := kv hd.k (bk H1) Cg1; replace H2 := kv hd.k (bk H2) Cg2; replace HD := dt (dq HD) hd; clear hd; refine hK.out _ _ ((blk_cell H1.out 5).trans rfl) (fun hHeld => ?_); clear hK K; refine nm 59 ?_; refine oe 5 57 (bl 12 255) (fun K hK => ?_); refine ilits 57 (T := 3) (xs := [-1, x.f5, wrap64 (x.f5 + 1)]) ?_; intro y v w_ hy HO hb_; replace H1 := bb (bk H1) hb_; replace H2 := bb (bk H2) hb_; replace HD := ra ((dq HD).below hb_); clear hb_; refine hK.out _ _ ((blk_cell H1.out 5).trans rfl) (fun hHeld => ?_); clear hK K; refine nm 57 ?_
    rotate_left
    refine ilits 57 (T := 3) (xs := [-1, x.f5, wrap64 (x.f5 + 1)]) ?_; intro y v w_ hy HO hb_; replace H1 := bb (bk H1) hb_; replace H2 := bb (bk H2) hb_; replace HD := ra ((dq HD).below hb_); clear hb_; refine hK.out _ _ ((blk_cell H1.out 5).trans rfl) (fun hHeld => ?_); clear hK K; refine nm 57 ?_; refine oe 7 59 (bl 12 255) (fun K hK => ?_); refine gt Tryz.func13 (rpick 3 (dq HD)) ?_; rintro r w_ ⟨Rr, hd⟩; replace H1 := kv hd.k (bk H1) Cg1; replace H2 := kv hd.k (bk H2) Cg2; replace HO := dR (dq HD) (rq HO) hd; replace HD := dt (dq HD) hd; clear hd; refine hK.out _ _ ((blk_cell H1.out 5).trans rfl) (fun hHeld => ?_); clear hK K; refine nm 59 ?_
    all_goals
      obtain ⟨_, _, rfl, hx, _, _⟩ := ixi HO.out hy Rr
      refine pu 8 60 (bl 12 511) ?_
      refine oe 9 61 (bl 12 1023) (fun K hK => ?_)
      refine value_ (w1 := ?_) (v := ?_) (by rfl) rfl ?_ ?_
      rotate_left 2
      · go_simp
        constructor <;> rfl
      clear hx
      refine hK.out _ _ ((blk_cell H1.out 5).trans rfl) (fun hHeld => ?_); clear hK K; refine nm 61 ?_
      refine pu 10 62 (bl 12 2047) ?_
      refine last_ (i := 11) (N := none) (bl 12 4095) rfl rfl (one_of HT_.out (by kernel_rfl)) (by decide) (fun K hK => ?_)
      obtain ⟨_, _, _, _, _, _, _, _, _, _, _, _⟩ := zc6 H1; obtain ⟨_, _, _, _, _, _, _, _, _, _, _, _⟩ := zc6 H2; have := Ng1g2.out; have := Ng2g1.out; have := Bg1.out; have := Cg1.out; have := Bg2.out; have := Cg2.out
      refine skip_ (w1 := ?_) (by rfl) rfl ?_ ?_
      rotate_left
      · go_simp
        rfl
      refine hK.out _ _ ?_
      clear hK K
      refine done_ (done_of HT_.out (by kernel_rfl)) ?_
      try go_wp2
      refine bodyPost_ret (results_cell_row rfl _ _ g2 46 #[.int .i64 x.f0, .int .i64 x.f1, .int .i64 x.f2, .int .i64 x.f3, .int .i64 (rd y r), .int .i64 x.f5] (0, 0) _ rfl (bp H2) Tryz.underlying46 rfl (by kernel_rfl)) rfl ?_
      exact ⟨⟨x.f0, x.f1, x.f2, x.f3, rd y r, x.f5⟩, rfl, ⟨by refine ⟨?_, ?_, ?_, ?_, ?_, ?_⟩ <;> first | exact Aside0.out (by assumption) | exact rdy (by assumption)⟩, (dq HD).less⟩
  · refine bodyPost_ret (results_cell_row rfl _ _ g2 46 #[.int .i64 x.f0, .int .i64 x.f1, .int .i64 x.f2, .int .i64 x.f3, .int .i64 x.f4, .int .i64 (rd y r)] (0, 0) _ rfl (bp H2) Tryz.underlying46 rfl (by kernel_rfl)) rfl ?_
    exact ⟨⟨x.f0, x.f1, x.f2, x.f3, x.f4, rd y r⟩, rfl, ⟨by refine ⟨?_, ?_, ?_, ?_, ?_, ?_⟩ <;> first | exact Aside0.out (by assumption) | exact rdy (by assumption)⟩, (dq HD).less⟩
  · refine bodyPost_ret (results_cell_row rfl _ _ g2 46 #[.int .i64 (rd y r), .int .i64 x.f1, .int .i64 x.f2, .int .i64 x.f3, .int .i64 x.f4, .int .i64 x.f5] (0, 0) _ rfl (bp H2) Tryz.underlying46 rfl (by kernel_rfl)) rfl ?_
    exact ⟨⟨rd y r, x.f1, x.f2, x.f3, x.f4, x.f5⟩, rfl, ⟨by refine ⟨?_, ?_, ?_, ?_, ?_, ?_⟩ <;> first | exact Aside0.out (by assumption) | exact rdy (by assumption)⟩, (dq HD).less⟩
  · refine bodyPost_ret (results_cell_row rfl _ _ g2 46 #[.int .i64 x.f0, .int .i64 (rd y r), .int .i64 x.f2, .int .i64 x.f3, .int .i64 x.f4, .int .i64 x.f5] (0, 0) _ rfl (bp H2) Tryz.underlying46 rfl (by kernel_rfl)) rfl ?_
    exact ⟨⟨x.f0, rd y r, x.f2, x.f3, x.f4, x.f5⟩, rfl, ⟨by refine ⟨?_, ?_, ?_, ?_, ?_, ?_⟩ <;> first | exact Aside0.out (by assumption) | exact rdy (by assumption)⟩, (dq HD).less⟩
  refine start_ (n := 12) (S := fun w' => w'.cell? ⟨g1, 3, none⟩ = some (.int .i64 x.f3)) (ds := [11]) (bl 12 0) (by kernel_rfl) rfl rfl ((blk_cell H1.out 3).trans rfl) (fun hHeld => ?_)
  refine with_tabW rspoil.t8 rspoil.b8 (fun HT_ HW_ => ?_)
  refine pu 0 31 (bl 12 1) ?_
  refine pu 3 34 (bl 12 9) ?_
  refine pu 6 37 (bl 12 73) ?_
  refine tk 1 32 (bl 12 75) ?_ hHeld
  refine pu 2 33 (bl 12 79) ?_
  refine tk 4 35 (bl 12 95) ?_ hHeld
  refine two_ (i := 5) (j := 7) (Ni := some 36) (Nj := some 38) (bl 12 127) (bl 12 223) rfl rfl rfl rfl (two_of HT_.out (by kernel_rfl)) (by decide) (by decide) (fun K hK => ?_) (fun K hK => ?_)
  rotate_left
  refine gt Tryz.func13 (rpick 3 (dq HD)) ?_; rintro r w_ ⟨Rr, hd⟩; replace H1 := kv hd.k (bk H1) Cg1; replace H2 := kv hd.k (bk H2) Cg2; replace HD := dt (dq HD) hd; clear hd; refine hK.out _ _ ((blk_cell H1.out 3).trans rfl) (fun hHeld => ?_); clear hK K; refine nm 38 ?_; refine oe 5 36 (bl 12 255) (fun K hK => ?_); refine ilits 36 (T := 3) (xs := [-1, wrap64 (x.f3 + 1), x.f3]) ?_; intro y v w_ hy HO hb_; replace H1 := bb (bk H1) hb_; replace H2 := bb (bk H2) hb_; replace HD := ra ((dq HD).below hb_); clear hb_; refine hK.out _ _ ((blk_cell H1.out 3).trans rfl) (fun hHeld => ?_); clear hK K; refine nm 36 ?_
  rotate_left
  refine ilits 36 (T := 3) (xs := [-1, wrap64 (x.f3 + 1), x.f3]) ?_; intro y v w_ hy HO hb_; replace H1 := bb (bk H1) hb_; replace H2 := bb (bk H2) hb_; replace HD := ra ((dq HD).below hb_); clear hb_; refine hK.out _ _ ((blk_cell H1.out 3).trans rfl) (fun hHeld => ?_); clear hK K; refine nm 36 ?_; refine oe 7 38 (bl 12 255) (fun K hK => ?_); refine gt Tryz.func13 (rpick 3 (dq HD)) ?_; rintro r w_ ⟨Rr, hd⟩; replace H1 := kv hd.k (bk H1) Cg1; replace H2 := kv hd.k (bk H2) Cg2; replace HO := dR (dq HD) (rq HO) hd; replace HD := dt (dq HD) hd; clear hd; refine hK.out _ _ ((blk_cell H1.out 3).trans rfl) (fun hHeld => ?_); clear hK K; refine nm 38 ?_
  all_goals
    obtain ⟨_, _, rfl, hx, _, _⟩ := ixi HO.out hy Rr
    refine pu 8 39 (bl 12 511) ?_
    refine oe 9 40 (bl 12 1023) (fun K hK => ?_)
    refine value_ (w1 := ?_) (v := ?_) (by rfl) rfl ?_ ?_
    rotate_left 2
    · go_simp
      constructor <;> rfl
    clear hx
    refine hK.out _ _ ((blk_cell H1.out 3).trans rfl) (fun hHeld => ?_); clear hK K; refine nm 40 ?_
    refine pu 10 41 (bl 12 2047) ?_
    refine last_ (i := 11) (N := none) (bl 12 4095) rfl rfl (one_of HT_.out (by kernel_rfl)) (by decide) (fun K hK => ?_)
    obtain ⟨_, _, _, _, _, _, _, _, _, _, _, _⟩ := zc6 H1; obtain ⟨_, _, _, _, _, _, _, _, _, _, _, _⟩ := zc6 H2; have := Ng1g2.out; have := Ng2g1.out; have := Bg1.out; have := Cg1.out; have := Bg2.out; have := Cg2.out
    refine skip_ (w1 := ?_) (by rfl) rfl ?_ ?_
    rotate_left
    · go_simp
      rfl
    refine hK.out _ _ ?_
    clear hK K
    refine done_ (done_of HT_.out (by kernel_rfl)) ?_
    try go_wp2
    refine bodyPost_ret (results_cell_row rfl _ _ g2 46 #[.int .i64 x.f0, .int .i64 x.f1, .int .i64 (rd y r), .int .i64 x.f3, .int .i64 x.f4, .int .i64 x.f5] (0, 0) _ rfl (bp H2) Tryz.underlying46 rfl (by kernel_rfl)) rfl ?_
    exact ⟨⟨x.f0, x.f1, rd y r, x.f3, x.f4, x.f5⟩, rfl, ⟨by refine ⟨?_, ?_, ?_, ?_, ?_, ?_⟩ <;> first | exact Aside0.out (by assumption) | exact rdy (by assumption)⟩, (dq HD).less⟩
theorem dc (p : Prop) [Decidable p] : decide p = true ∨ decide p = false := by cases decide p <;> simp
theorem l1ex (a b c : Int) : ∃ t, spec_l1In.f a b c = some t := by
  unfold spec_l1In.f
  repeat (first | split | exact ⟨_, rfl⟩)
theorem bgr {w w1 : World} {g' : Nat} {o : Obj} {v : Value} (h : w.heap[g']? = some o) (hg : w.grownBy w1 v.ownBlock) (hn : some g' ≠ v.ownBlock) : Aside0 (w1.heap[g']? = some o) := ⟨blk_grown h hg hn⟩
structure TS (w0 w : World) (g : Nat) (b : List Int) (nn : ByteArray) (g1 g2 g3 : Nat) (R : Nat) (W : World) (y : S46) (u : Value) (xs : List S46) : Prop where
  q0 : Aside0 (Wf y)
  q1 : Aside0 (W.heap[g1]? = some (.cells #[.string (⟨#[]⟩ : ByteArray), .slice none 0 0] 33 (0, 0)))
  q2 : Aside0 (W.heap[g2]? = some (.cells #[.string nn, u] 33 (0, 0)))
  q3 : Aside0 (W.heap[g3]? = some (.cells #[.int .i64 y.f0, .int .i64 y.f1, .int .i64 y.f2, .int .i64 y.f3, .int .i64 y.f4, .int .i64 y.f5] 46 (0, 0)))
  q4 : Aside0 (Kd.R k46 46 W w.heap.size (fun k_ => k_ ≠ g3) u xs)
  q5 : Aside0 (DD w0 w g b R W)
  q6 : Aside0 (∀ q ∈ xs, Wf q)
theorem sw1 (r : Int) : (r == 0) = true ∨ (r == 0) = false := by cases r == 0 <;> simp
theorem rtube {w0 w W : World} {g : Nat} {b : List Int} {R : Nat} (nn : ByteArray) (hD : DD w0 w g b (R + 900) W) :
    Calls Tryz.prog 42 #[.pointer (some ⟨g, 0, none⟩), .string nn] W fun e w' => ∃ x : Value × List S46, e = .returned (.agg #[.string nn, x.1]) ∧ Aside0 ((∀ q ∈ x.2, Wf q) ∧ x.2.length ≤ 100) ∧ Kd.R k46 46 w' W.heap.size (fun _ => True) x.1 x.2 ∧ DD w0 W g b R w' := by
  have HD := hD.start
  clear hD
  have hu1 := Tryz.underlying33
  have hu2 := Tryz.underlying46
  go_enter Tryz.func42, Tryz.ntmps42
  go_wp2_with (first | ((with_reducible refine gd 4 rfl ?_); refine be 4 #[.string (⟨#[]⟩ : ByteArray), .slice none 0 0] 33 ?_; intro g1 hg w_ hbox hb_; have H1 := ra hbox; obtain ⟨Ag1, Bg1, Cg1⟩ := dn hg (dq HD); replace HD := ra ((dq HD).below hb_); clear hb_ hbox hg) | ((with_reducible refine gd 5 rfl ?_); refine be 5 #[.string (⟨#[]⟩ : ByteArray), .slice none 0 0] 33 ?_; intro g2 hg w_ hbox hb_; have H2 := ra hbox; obtain ⟨Ag2, Bg2, Cg2⟩ := dn hg (dq HD); have Ng1g2 := bn hg (bk H1); have Ng2g1 := bm hg (bk H1); replace H1 := bb (bk H1) hb_; replace HD := ra ((dq HD).below hb_); clear hb_ hbox hg; have := Ng1g2.out; have := Ng2g1.out; have := Bg2.out; have := Cg2.out; obtain ⟨_, _, _, _⟩ := zc2 H2) | ((with_reducible refine gd 13 rfl ?_); refine gz (some 13) Tryz.func65 (rbox (dq HD)) ?_; rintro y w_ ⟨HY, hd⟩; replace H1 := kv hd.k (bk H1) Cg1; replace H2 := kp #[.string nn, .slice none 0 0] hd.k (bp H2) Cg2; replace HD := dt (dq HD) hd; clear hd) | ((with_reducible refine gd 6 rfl ?_); refine be 6 #[.int .i64 0, .int .i64 0, .int .i64 0, .int .i64 0, .int .i64 0, .int .i64 0] 46 ?_; intro g3 hg w_ hbox hb_; have H3 := ra hbox; obtain ⟨Ag3, Bg3, Cg3⟩ := dn hg (dq HD); have Ng1g3 := bn hg (bk H1); have Ng3g1 := bm hg (bk H1); replace H1 := bb (bk H1) hb_; have Ng2g3 := bn hg (bk H2); have Ng3g2 := bm hg (bk H2); replace H2 := bb (bk H2) hb_; replace HD := ra ((dq HD).below hb_); clear hb_ hbox hg; have := Bg3.out; have := Cg3.out; have := Ng1g3.out; have := Ng3g1.out; have := Ng2g3.out; have := Ng3g2.out; obtain ⟨_, _, _, _, _, _, _, _, _, _, _, _⟩ := zc6 H3) | ((with_reducible refine gd 15 rfl ?_); refine gz (some 15) Tryz.func13 (rpick 7 (dq HD)) ?_; rintro r15 w_ ⟨Rr15, hd⟩; replace H1 := kv hd.k (bk H1) Cg1; replace H2 := kv hd.k (bk H2) Cg2; replace H3 := kp #[.int .i64 y.f0, .int .i64 y.f1, .int .i64 y.f2, .int .i64 y.f3, .int .i64 y.f4, .int .i64 y.f5] hd.k (bp H3) Cg3; replace HD := dt (dq HD) hd; clear hd))
  have hE : ∃ R1, R1 = R + 700 := ⟨_, rfl⟩
  obtain ⟨R1, hR1⟩ := hE
  have HR1 := ra hR1; clear hR1
  go_loopg [7] 8 (fun kq v7 w' => ∃ (n : Int) (y : S46) (u : Value) (xs : List S46), v7 = .int .i64 n ∧ Aside0 (0 ≤ n ∧ n < (kq : Int) ∧ xs.length + kq ≤ 8) ∧ TS w0 W g b nn g1 g2 g3 (R1 + 20 * kq) w' y u xs)
  case atStart => exact ⟨r15, y, .slice none 0 0, [], rs, ⟨by have := Rr15.out; omega, by have := Rr15.out; omega, by simp⟩, HY, ⟨bk H1⟩, ⟨bk H2⟩, ⟨bk H3⟩, ⟨Kd.R_nil _ _ _ _ _⟩, ⟨(dq HD).less (by have := HR1.out; omega)⟩, ⟨by simp⟩⟩
  clear HY H1 H2 H3 HD Rr15
  obtain ⟨n, y, u, xs, rfl, HN, T⟩ := hrel
  obtain ⟨HY, H1, H2, H3, HO, HD, HX⟩ := T
  rcases dc (0 < n) with c | c
  rotate_left
  · replace HD : Aside0 (DD w0 W g b (R + 520 + 1) _) := ⟨HD.out.less (by have := HR1.out; omega)⟩
    try go_wp2_with (first | ((with_reducible refine gd 80 rfl ?_); refine gz (some 80) Tryz.func13 (rpick 40 (dq HD)) ?_; rintro r80 w_ ⟨Rr80, hd⟩; replace H1 := kv hd.k (bk H1) Cg1; replace H2 := kv hd.k (bk H2) Cg2; replace H3 := kv hd.k (bk H3) Cg3; replace HO := dR (dq HD) (rq HO) hd; replace HD := dt (dq HD) hd; clear hd; have := Ng1g2.out; have := Ng2g1.out; have := Ng1g3.out; have := Ng3g1.out; have := Ng2g3.out; have := Ng3g2.out; have := Bg1.out; have := Cg1.out; have := Bg2.out; have := Cg2.out; have := Bg3.out; have := Cg3.out; obtain ⟨_, _, _, _⟩ := zc2 H2; obtain ⟨_, _, _, _⟩ := zc2 H1; obtain ⟨Ao, co, rfl⟩ := Kd.R_slice HO.out; rcases sw1 r80 with c1 | c1))
    rotate_left
    · refine bodyPost_ret (results_cell_row rfl _ _ g1 33 #[.string nn, .slice Ao xs.length co] (0, 0) _ rfl (bp H1) Tryz.underlying33 rfl (by kernel_rfl)) rfl ?_
      exact ⟨⟨_, xs⟩, rfl, ⟨HX.out, show xs.length ≤ 100 by have := HN.out; omega⟩, Kd.R_mono (rf (Kd.R_types HO.out H1.out (by decide))) (fun _ _ => trivial), (dq HD).less⟩
    go_loopg [] 42 (fun kq w' => ∃ (u : Value) (xs : List S46), Aside0 (xs.length ≤ 40 ∧ 41 ≤ xs.length + kq) ∧ TS w0 W g b nn g1 g2 g3 (R + 12 * kq) w' y u xs)
    case atStart => exact ⟨_, _, ⟨by have := HN.out; omega, by omega⟩, HY, ⟨bk H1⟩, ⟨bk H2⟩, ⟨bk H3⟩, ⟨rq HO⟩, ⟨(dq HD).less⟩, HX⟩
    clear HY H1 H2 H3 HO HD HX HN
    obtain ⟨u, xs, HN, T⟩ := hrel
    obtain ⟨HY, H1, H2, H3, HO, HD, HX⟩ := T
    obtain _ | k2 := gk
    ·exact absurd HN.out (by omega)
    obtain ⟨Ao, co, rfl⟩ := Kd.R_slice HO.out
    replace HD : Aside0 (DD w0 W g b (R + 12 * k2 + 12) _) := ⟨HD.out.less (by omega)⟩
    try go_wp2
    refine start_ (n := 7) (S := fun w' => w'.cell? ⟨g2, 1, none⟩ = some (.slice Ao xs.length co)) (ds := []) (bl 7 0) (by kernel_rfl) rfl rfl ((blk_cell (bk H2) 1).trans rfl) (fun hHeld => ?_)
    refine pu 0 82 (bl 7 1) ?_
    refine pu 3 85 (bl 7 9) ?_
    refine tk 1 83 (bl 7 11) ?_ hHeld
    refine pu 2 84 (bl 7 15) ?_
    refine oe 4 86 (bl 7 31) (fun K hK => ?_)
    refine gt Tryz.func13 (rpick 2 (dq HD)) ?_
    rintro r86 w_ ⟨R86, hd⟩
    replace H1 := kv hd.k (bk H1) Cg1; replace H2 := kv hd.k (bk H2) Cg2; replace H3 := kv hd.k (bk H3) Cg3; replace HO := dR (dq HD) (rq HO) hd; replace HD := dt (dq HD) hd; clear hd
    refine hK.out _ _ ((blk_cell H2.out 1).trans rfl) (fun hHeld => ?_)
    clear hK K
    rcases dc ((xs.length : Int) < wrap64 (40 - r86)) with c2 | c2
    all_goals
      refine nm 86 ?_
      refine pu 5 87 (bl 7 63) ?_
      refine pu 6 88 (bl 7 127) ?_
      refine done_ (by kernel_rfl) ?_
    rotate_left
    · have := Ng1g2.out; have := Ng2g1.out; have := Ng1g3.out; have := Ng3g1.out; have := Ng2g3.out; have := Ng3g2.out; have := Bg1.out; have := Cg1.out; have := Bg2.out; have := Cg2.out; have := Bg3.out; have := Cg3.out; obtain ⟨_, _, _, _⟩ := zc2 H2; obtain ⟨_, _, _, _⟩ := zc2 H1
      try go_wp2
      refine bodyPost_ret (results_cell_row rfl _ _ g1 33 #[.string nn, .slice Ao xs.length co] (0, 0) _ rfl (bp H1) Tryz.underlying33 rfl (by kernel_rfl)) rfl ?_
      exact ⟨⟨_, xs⟩, rfl, ⟨HX.out, show xs.length ≤ 100 by have := HN.out; omega⟩, Kd.R_mono (rf (Kd.R_types HO.out H1.out (by decide))) (fun _ _ => trivial), (dq HD).less⟩
    try go_wp2
    refine start_ (n := 8) (S := fun w' => w'.cell? ⟨g2, 1, none⟩ = some (.slice Ao xs.length co)) (ds := [7]) (bl 8 0) (by kernel_rfl) rfl rfl ((blk_cell (bk H2) 1).trans rfl) (fun hHeld => ?_)
    refine pu 0 89 (bl 8 1) ?_
    refine pu 2 91 (bl 8 5) ?_
    refine tk 1 90 (bl 8 7) ?_ hHeld
    refine oe 3 92 (bl 8 15) (fun K hK => ?_)
    refine gt Tryz.func65 (rbox (dq HD)) ?_
    rintro y2 w_ ⟨HY2, hd⟩
    replace H1 := kv hd.k (bk H1) Cg1; replace H2 := kv hd.k (bk H2) Cg2; replace H3 := kv hd.k (bk H3) Cg3; replace HO := dR (dq HD) (rq HO) hd; replace HD := dt (dq HD) hd; clear hd
    refine hK.out _ _ ((blk_cell H2.out 1).trans rfl) (fun hHeld => ?_)
    clear hK K
    refine nm 92 ?_
    refine oe 4 93 (bl 8 31) (fun K hK => ?_)
    refine value_ (w1 := ?_) (v := ?_) (by rfl) rfl ?_ ?_
    rotate_left 2
    · go_simp
      constructor <;> rfl
    refine hK.out _ _ ((blk_cell (blk_alloc H2.out _) 1).trans rfl) (fun hHeld => ?_)
    clear hK K
    refine nm 93 ?_
    refine oe 5 94 (bl 8 63) (fun K hK => ?_)
    refine Kd.R_append_step k46 W.heap.size (by rfl) (.tmp 90) (.tmp 93) 31 46 (.agg #[.int .i64 0, .int .i64 0, .int .i64 0, .int .i64 0, .int .i64 0, .int .i64 0]) 48 rfl Tryz.underlying31 info46 rfl (by decide) (by omega) _ xs y2 [.int .i64 y2.f0, .int .i64 y2.f1, .int .i64 y2.f2, .int .i64 y2.f3, .int .i64 y2.f4, .int .i64 y2.f5] (fun k_ => k_ ≠ g3) (fun _ => False) rfl rfl ?aP (fun _ hk => hk.elim) ?aF ?aO (Below.refl _ _) ?aS ?aL ?_; (case aP => exact k46_mkM _ _ _ y2); (case aF => exact fun k_ hk => Kd.freshB (bk H3) k_ hk); (case aO => exact rq HO); (case aS => exact keep_size (dq HD).k); (case aL => have := HN.out; omega); intro v1 w_ ho hb hg _; obtain ⟨xs2, hxs⟩ : ∃ l, l = xs ++ [y2] := ⟨_, rfl⟩; rw [← hxs] at ho; have HX2 := ra hxs; clear hxs; obtain ⟨Av, cv, rfl⟩ := Kd.R_slice ho; replace HD := DD.app (dq HD) (rq HO) hg hb; replace H1 := bgr (bk H1) hg (Kd.R_ne HO.out H1.out (by decide)); replace H2 := bgr (bk H2) hg (Kd.R_ne HO.out H2.out (by decide)); replace H3 := bgr (bk H3) hg (Kd.R_away HO.out (fun _ hk => hk)); replace HO := ra ho; clear ho hb hg
    refine hK.out _ _ ((blk_cell H2.out 1).trans rfl) (fun hHeld => ?_)
    clear hK K
    refine nm 94 ?_
    refine pu 6 95 (bl 8 127) ?_
    refine last_ (i := 7) (N := none) (bl 8 255) rfl rfl (by kernel_rfl) (by decide) (fun K hK => ?_)
    obtain ⟨_, _, _, _⟩ := zc2 H2; obtain ⟨_, _, _, _, _, _, _, _, _, _, _, _⟩ := zc6 H3
    refine skip_ (w1 := ?_) (by rfl) rfl ?_ ?_
    rotate_left
    · go_simp
      rfl
    refine hK.out _ _ ?_
    clear hK K
    refine done_ (by kernel_rfl) ?_
    try go_wp2
    go_roundg k2
    case measure => have := HN.out; omega
    exact ⟨.slice Av xs2.length cv, xs2, ⟨by have h1 := of_decide_eq_true c2; have := HN.out; have := R86.out; rw [HX2.out, List.length_append, List.length_singleton]; unfold wrap64 at h1; omega⟩, HY, ⟨bk H1⟩, ⟨bp H2⟩, ⟨bk H3⟩, ⟨(Kd.R_mono (rf (Kd.R_types HO.out H2.out (by decide))) (fun _ hk => hk.1))⟩, ⟨(dq HD).less⟩, ⟨by rw [HX2.out]; exact fun q hq => (List.mem_append.1 hq).elim (HX.out q) fun h => by rw [List.mem_singleton.1 h]; exact HY2.out⟩⟩
  cases gk with
  | zero => exact absurd HN.out (by have := of_decide_eq_true c; omega)
  | succ k1 =>
  obtain ⟨R2, hR2⟩ : ∃ R2, R2 = R1 + 20 * k1 := ⟨_, rfl⟩
  replace HD : Aside0 (DD w0 W g b (R2 + 20) _) := ⟨HD.out.less (by omega)⟩
  have HR2 := ra hR2; clear hR2
  have := Ng1g2.out; have := Ng2g1.out; have := Ng1g3.out; have := Ng3g1.out; have := Ng2g3.out; have := Ng3g2.out; have := Bg1.out; have := Cg1.out; have := Bg2.out; have := Cg2.out; have := Bg3.out; have := Cg3.out
  obtain ⟨_, _, _, _⟩ := zc2 H2; obtain ⟨_, _, _, _, _, _, _, _, _, _, _, _⟩ := zc6 H3
  try go_wp2_with (first | ((with_reducible refine gate_builtin (b := .append) (xs := #[.tmp 21, .tmp 23]) rfl ?_); at_builtin; refine Kd.R_append k46 W.heap.size rfl (.tmp 21) (.tmp 23) 31 46 (.agg #[.int .i64 0, .int .i64 0, .int .i64 0, .int .i64 0, .int .i64 0, .int .i64 0]) 48 rfl Tryz.underlying31 info46 rfl (by decide) (by omega) u xs y [.int .i64 y.f0, .int .i64 y.f1, .int .i64 y.f2, .int .i64 y.f3, .int .i64 y.f4, .int .i64 y.f5] (fun k_ => k_ ≠ g3) (fun _ => False) rfl rfl ?aP (fun _ hk => hk.elim) ?aF ?aO (Below.refl _ _) ?aS ?aL ?_; (case aP => exact k46_mkM _ _ _ y); (case aF => exact fun k_ hk => Kd.freshB (bk H3) k_ hk); (case aO => exact rq HO); (case aS => exact keep_size (dq HD).k); (case aL => have := HN.out; omega); intro v1 w_ ho hb hg _; obtain ⟨xs2, hxs⟩ : ∃ l, l = xs ++ [y] := ⟨_, rfl⟩; rw [← hxs] at ho; have HX2 := ra hxs; clear hxs; obtain ⟨Av, cv, rfl⟩ := Kd.R_slice ho; replace HD := DD.app (dq HD) (rq HO) hg hb; replace H1 := bgr (bk H1) hg (Kd.R_ne HO.out H1.out (by decide)); replace H2 := bgr (bk H2) hg (Kd.R_ne HO.out H2.out (by decide)); replace H3 := bgr (bk H3) hg (Kd.R_away HO.out (fun _ hk => hk)); replace HO := ra ho; clear ho hb hg; obtain ⟨_, _, _, _⟩ := zc2 H2) | ((with_reducible refine gd 27 rfl ?_); refine gz (some 27) Tryz.func13 (rpick 10 (dq HD)) ?_; rintro r27 w_ ⟨-, hd⟩; replace HO := dR (dq HD) (Kd.R_mono (rf (Kd.R_types HO.out H2.out (by decide))) (fun _ hk => hk.1)) hd; replace H1 := kv hd.k (bk H1) Cg1; replace H2 := kp #[.string nn, .slice Av xs2.length cv] hd.k (bp H2) Cg2; replace H3 := kv hd.k (bk H3) Cg3; replace HD := dt (dq HD) hd; clear hd; rcases sw1 r27 with c1 | c1) | ((with_reducible refine gd 30 rfl ?_); refine gz (some 30) Tryz.func65 (rbox (dq HD)) ?_; rintro y2 w_ ⟨HY2, hd⟩; replace H1 := kv hd.k (bk H1) Cg1; replace H2 := kv hd.k (bk H2) Cg2; replace H3 := kv hd.k (bk H3) Cg3; replace HO := dR (dq HD) (rq HO) hd; replace HD := dt (dq HD) hd; clear hd; obtain ⟨_, _, _, _, _, _, _, _, _, _, _, _⟩ := zc6 H3))
  · go_roundg k1
    case measure => have := HN.out; omega
    exact ⟨_, y2, .slice Av xs2.length cv, xs2, rfl, ⟨by have := HN.out; have := of_decide_eq_true c; rw [HX2.out, List.length_append]; unfold wrap64; simp; omega⟩, HY2, ⟨bk H1⟩, ⟨bk H2⟩, ⟨bp H3⟩, ⟨(Kd.R_mono (rf (Kd.R_mono HO.out (fun k_ hk => (⟨hk, hk⟩ : _ ∧ k_ ≠ g3)))) (fun _ hk => hk.1))⟩, ⟨(dq HD).less (by have := HR2.out; omega)⟩, ⟨by rw [HX2.out]; exact fun q hq => (List.mem_append.1 hq).elim (HX.out q) fun h => by rw [List.mem_singleton.1 h]; exact HY.out⟩⟩
  refine start_ (n := 7) (S := fun w' => w'.cell? ⟨g3, 0, none⟩ = some (.int .i64 y.f0)) (ds := []) (bl 7 0) (by kernel_rfl) rfl rfl ((blk_cell (bk H3) 0).trans rfl) (fun hHeld => ?_)
  refine pu 0 31 (bl 7 1) ?_
  refine pu 2 33 (bl 7 5) ?_
  refine tk 1 32 (bl 7 7) ?_ hHeld
  refine oe 3 34 (bl 7 15) (fun K hK => ?_)
  refine gt Tryz.func13 (rpick 3 (dq HD)) ?_
  rintro r34 w_ ⟨-, hd⟩
  replace H1 := kv hd.k (bk H1) Cg1; replace H2 := kv hd.k (bk H2) Cg2; replace H3 := kv hd.k (bk H3) Cg3; replace HO := dR (dq HD) (rq HO) hd; replace HD := dt (dq HD) hd; clear hd
  refine hK.out _ _ ((blk_cell H3.out 0).trans rfl) (fun hHeld => ?_)
  clear hK K
  refine nm 34 ?_
  refine pu 4 35 (bl 7 31) ?_
  refine pu 5 36 (bl 7 63) ?_
  refine pu 6 8 (bl 7 127) ?_
  refine done_ (by kernel_rfl) ?_
  try go_wp2
  refine start_ (n := 7) (S := fun w' => w'.cell? ⟨g3, 1, none⟩ = some (.int .i64 y.f1)) (ds := []) (bl 7 0) (by kernel_rfl) rfl rfl ((blk_cell (bk H3) 1).trans rfl) (fun hHeld => ?_)
  refine pu 0 37 (bl 7 1) ?_
  refine pu 2 39 (bl 7 5) ?_
  refine tk 1 38 (bl 7 7) ?_ hHeld
  refine oe 3 40 (bl 7 15) (fun K hK => ?_)
  refine gt Tryz.func13 (rpick 3 (dq HD)) ?_
  rintro r40 w_ ⟨-, hd⟩
  replace H1 := kv hd.k (bk H1) Cg1; replace H2 := kv hd.k (bk H2) Cg2; replace H3 := kv hd.k (bk H3) Cg3; replace HO := dR (dq HD) (rq HO) hd; replace HD := dt (dq HD) hd; clear hd
  refine hK.out _ _ ((blk_cell H3.out 1).trans rfl) (fun hHeld => ?_)
  clear hK K
  refine nm 40 ?_
  refine pu 4 41 (bl 7 31) ?_
  refine pu 5 42 (bl 7 63) ?_
  refine pu 6 9 (bl 7 127) ?_
  refine done_ (by kernel_rfl) ?_
  go_upto_region 11 with (fail)
  go_cut [48] (fun v48 wc => ∃ x : Bool, v48 = .bool x ∧ TS w0 W g b nn g1 g2 g3 (R2 + 7) wc y (.slice Av xs2.length cv) xs2)
  case first =>
    obtain ⟨t1, e1⟩ := l1ex (wrap64 (wrap64 (y.f0 + r34) - 1)) 0 15
    obtain ⟨t2, e2⟩ := l1ex (wrap64 (wrap64 (y.f1 + r40) - 1)) 0 15
    cases t1
    all_goals
      go_wp2_with (first | ((with_reducible refine gc 66 rfl ?_); refine gy (some 44) Tryz.func66 (spec_l1In.calls _ _ _ _ _ e1) ?_; rintro w' ⟨nd, rfl⟩) | (go_at_call 66; refine (spec_l1In.calls _ _ _ _ _ e2).mono ?_; rintro e w' ⟨rfl, ⟨nd, rfl⟩⟩))
      go_meet
      case rel => exact ⟨_, rs, HY, ⟨bk H1⟩, ⟨bk H2⟩, ⟨bk H3⟩, ⟨rq HO⟩, ⟨(dq HD).less⟩, ⟨by rw [HX2.out]; exact fun q hq => (List.mem_append.1 hq).elim (HX.out q) fun h => by rw [List.mem_singleton.1 h]; exact HY.out⟩⟩
  clear H1 H2 H3 HO HD
  obtain ⟨t, rfl, T⟩ := hcut
  obtain ⟨-, H1, H2, H3, HO, HD, -⟩ := T
  go_upto_if 48 with (fail)
  go_cut [] (fun wc => ∃ y2, TS w0 W g b nn g1 g2 g3 (R2 + 7) wc y2 (.slice Av xs2.length cv) xs2)
  case first =>
    have := Ng1g2.out; have := Ng2g1.out; have := Ng1g3.out; have := Ng3g1.out; have := Ng2g3.out; have := Ng3g2.out; have := Bg1.out; have := Cg1.out; have := Bg2.out; have := Cg2.out; have := Bg3.out; have := Cg3.out; obtain ⟨_, _, _, _, _, _, _, _, _, _, _, _⟩ := zc6 H3
    cases t
    · go_wp2
      go_meet
      case rel => exact ⟨y, HY, ⟨bk H1⟩, ⟨bk H2⟩, ⟨bk H3⟩, ⟨rq HO⟩, ⟨dq HD⟩, ⟨by rw [HX2.out]; exact fun q hq => (List.mem_append.1 hq).elim (HX.out q) fun h => by rw [List.mem_singleton.1 h]; exact HY.out⟩⟩
    go_wp2
    go_meet
    case rel => exact ⟨⟨wrap64 (wrap64 (y.f0 + r34) - 1), wrap64 (wrap64 (y.f1 + r40) - 1), y.f2, y.f3, y.f4, y.f5⟩, ⟨wR _, wR _, HY.out.2.2⟩, ⟨bk H1⟩, ⟨bk H2⟩, ⟨bp H3⟩, ⟨(Kd.R_mono (rf (Kd.R_mono HO.out (fun k_ hk => (⟨hk, hk⟩ : _ ∧ k_ ≠ g3)))) (fun _ hk => hk.1))⟩, ⟨dq HD⟩, ⟨by rw [HX2.out]; exact fun q hq => (List.mem_append.1 hq).elim (HX.out q) fun h => by rw [List.mem_singleton.1 h]; exact HY.out⟩⟩
  clear H1 H2 H3 HO HD
  obtain ⟨y2, T⟩ := hcut
  obtain ⟨HY2, H1, H2, H3, HO, HD, -⟩ := T
  have := Ng1g2.out; have := Ng2g1.out; have := Ng1g3.out; have := Ng3g1.out; have := Ng2g3.out; have := Ng3g2.out; have := Bg1.out; have := Cg1.out; have := Bg2.out; have := Cg2.out; have := Bg3.out; have := Cg3.out; obtain ⟨_, _, _, _, _, _, _, _, _, _, _, _⟩ := zc6 H3
  rcases dc (wrap64 (y2.f5 + 20) < 10000) with c2 | c2
  rotate_left
  · go_wp2
    go_roundg k1
    case measure => have := HN.out; omega
    exact ⟨_, y2, .slice Av xs2.length cv, xs2, rfl, ⟨by have := HN.out; have := of_decide_eq_true c; rw [HX2.out, List.length_append]; unfold wrap64; simp; omega⟩, HY2, ⟨bk H1⟩, ⟨bk H2⟩, ⟨bk H3⟩, ⟨rq HO⟩, ⟨(dq HD).less (by have := HR2.out; omega)⟩, ⟨by rw [HX2.out]; exact fun q hq => (List.mem_append.1 hq).elim (HX.out q) fun h => by rw [List.mem_singleton.1 h]; exact HY.out⟩⟩
  try go_wp2
  refine start_ (n := 8) (S := fun w' => w'.cell? ⟨g3, 4, none⟩ = some (.int .i64 y2.f4)) (ds := [7]) (bl 8 0) (by kernel_rfl) rfl rfl ((blk_cell (bp (cs2 := #[.int .i64 y2.f0, .int .i64 y2.f1, .int .i64 y2.f2, .int .i64 y2.f3, .int .i64 y2.f4, .int .i64 y2.f5]) H3) 4).trans rfl) (fun hHeld => ?_)
  refine pu 0 57 (bl 8 1) ?_
  refine pu 3 60 (bl 8 9) ?_
  refine tk 1 58 (bl 8 11) ?_ hHeld
  refine pu 2 59 (bl 8 15) ?_
  refine oe 4 61 (bl 8 31) (fun K hK => ?_)
  refine gt Tryz.func13 (rpick 4 (dq HD)) ?_
  rintro r61 w_ ⟨-, hd⟩
  replace HO := dR (dq HD) (Kd.R_mono (rf (Kd.R_mono HO.out (fun k_ hk => (⟨hk, hk⟩ : _ ∧ k_ ≠ g3)))) (fun _ hk => hk.1)) hd; replace H1 := kv hd.k (bk H1) Cg1; replace H2 := kv hd.k (bk H2) Cg2; replace H3 := kp #[.int .i64 y2.f0, .int .i64 y2.f1, .int .i64 y2.f2, .int .i64 y2.f3, .int .i64 y2.f4, .int .i64 y2.f5] hd.k (bp H3) Cg3; replace HD := dt (dq HD) hd; clear hd
  refine hK.out _ _ ((blk_cell H3.out 4).trans rfl) (fun hHeld => ?_)
  clear hK K
  refine nm 61 ?_
  refine pu 5 62 (bl 8 63) ?_
  refine pu 6 63 (bl 8 127) ?_
  refine last_ (i := 7) (N := none) (bl 8 255) rfl rfl (by kernel_rfl) (by decide) (fun K hK => ?_)
  obtain ⟨_, _, _, _, _, _, _, _, _, _, _, _⟩ := zc6 H3
  refine skip_ (w1 := ?_) (by rfl) rfl ?_ ?_
  rotate_left
  · go_simp
    rfl
  refine hK.out _ _ ?_
  clear hK K
  refine done_ (by kernel_rfl) ?_
  try go_wp2
  refine start_ (n := 8) (S := fun w' => w'.cell? ⟨g3, 5, none⟩ = some (.int .i64 y2.f5)) (ds := [7]) (bl 8 0) (by kernel_rfl) rfl rfl ((blk_cell (bp (cs2 := #[.int .i64 y2.f0, .int .i64 y2.f1, .int .i64 y2.f2, .int .i64 y2.f3, .int .i64 (wrap64 (wrap64 (y2.f4 + 1) + r61)), .int .i64 y2.f5]) H3) 5).trans rfl) (fun hHeld => ?_)
  refine pu 0 64 (bl 8 1) ?_
  refine pu 3 67 (bl 8 9) ?_
  refine tk 1 65 (bl 8 11) ?_ hHeld
  refine pu 2 66 (bl 8 15) ?_
  refine oe 4 68 (bl 8 31) (fun K hK => ?_)
  refine gt Tryz.func13 (rpick 6 (dq HD)) ?_
  rintro r68 w_ ⟨-, hd⟩
  replace HO := dR (dq HD) (Kd.R_mono (rf (Kd.R_mono HO.out (fun k_ hk => (⟨hk, hk⟩ : _ ∧ k_ ≠ g3)))) (fun _ hk => hk.1)) hd; replace H1 := kv hd.k (bk H1) Cg1; replace H2 := kv hd.k (bk H2) Cg2; replace H3 := kp #[.int .i64 y2.f0, .int .i64 y2.f1, .int .i64 y2.f2, .int .i64 y2.f3, .int .i64 (wrap64 (wrap64 (y2.f4 + 1) + r61)), .int .i64 y2.f5] hd.k (bp H3) Cg3; replace HD := dt (dq HD) hd; clear hd
  refine hK.out _ _ ((blk_cell H3.out 5).trans rfl) (fun hHeld => ?_)
  clear hK K
  refine nm 68 ?_
  refine pu 5 69 (bl 8 63) ?_
  refine pu 6 70 (bl 8 127) ?_
  refine last_ (i := 7) (N := none) (bl 8 255) rfl rfl (by kernel_rfl) (by decide) (fun K hK => ?_)
  obtain ⟨_, _, _, _, _, _, _, _, _, _, _, _⟩ := zc6 H3
  refine skip_ (w1 := ?_) (by rfl) rfl ?_ ?_
  rotate_left
  · go_simp
    rfl
  refine hK.out _ _ ?_
  clear hK K
  refine done_ (by kernel_rfl) ?_
  have := Ng1g2.out; have := Ng2g1.out; have := Ng1g3.out; have := Ng3g1.out; have := Ng2g3.out; have := Ng3g2.out; have := Bg1.out; have := Cg1.out; have := Bg2.out; have := Cg2.out; have := Bg3.out; have := Cg3.out; obtain ⟨_, _, _, _, _, _, _, _, _, _, _, _⟩ := zc6 H3
  rcases dc (wrap64 (wrap64 (y2.f5 + 1) + r68) < wrap64 (wrap64 (y2.f4 + 1) + r61)) with c3 | c3
  · go_wp2
    go_roundg k1
    case measure => have := HN.out; omega
    exact ⟨_, ⟨y2.f0, y2.f1, y2.f2, y2.f3, wrap64 (wrap64 (y2.f4 + 1) + r61), wrap64 (wrap64 (y2.f4 + 1) + r61)⟩, .slice Av xs2.length cv, xs2, rfl, ⟨by have := HN.out; have := of_decide_eq_true c; rw [HX2.out, List.length_append]; unfold wrap64; simp; omega⟩, ⟨HY2.out.1, HY2.out.2.1, HY2.out.2.2.1, HY2.out.2.2.2.1, wR _, wR _⟩, ⟨bk H1⟩, ⟨bk H2⟩, ⟨bp H3⟩, ⟨(Kd.R_mono (rf (Kd.R_mono HO.out (fun k_ hk => (⟨hk, hk⟩ : _ ∧ k_ ≠ g3)))) (fun _ hk => hk.1))⟩, ⟨(dq HD).less (by have := HR2.out; omega)⟩, ⟨by rw [HX2.out]; exact fun q hq => (List.mem_append.1 hq).elim (HX.out q) fun h => by rw [List.mem_singleton.1 h]; exact HY.out⟩⟩
  go_wp2
  go_roundg k1
  case measure => have := HN.out; omega
  exact ⟨_, ⟨y2.f0, y2.f1, y2.f2, y2.f3, wrap64 (wrap64 (y2.f4 + 1) + r61), wrap64 (wrap64 (y2.f5 + 1) + r68)⟩, .slice Av xs2.length cv, xs2, rfl, ⟨by have := HN.out; have := of_decide_eq_true c; rw [HX2.out, List.length_append]; unfold wrap64; simp; omega⟩, ⟨HY2.out.1, HY2.out.2.1, HY2.out.2.2.1, HY2.out.2.2.2.1, wR _, wR _⟩, ⟨bk H1⟩, ⟨bk H2⟩, ⟨bp H3⟩, ⟨(Kd.R_mono (rf (Kd.R_mono HO.out (fun k_ hk => (⟨hk, hk⟩ : _ ∧ k_ ≠ g3)))) (fun _ hk => hk.1))⟩, ⟨(dq HD).less (by have := HR2.out; omega)⟩, ⟨by rw [HX2.out]; exact fun q hq => (List.mem_append.1 hq).elim (HX.out q) fun h => by rw [List.mem_singleton.1 h]; exact HY.out⟩⟩
section
variable {P : Program} {ops : Array Oper} {Q : Exit → Act → World → Prop} {a : Act} {W : World} {o : Oper} {T : Nat} {n : Nat}
theorem slit {rest : List Oper} (N : Tmp) {xs : List ByteArray} (h : ∀ (y : List ByteArray) (v : Value) w1, Aside0 (y = xs) → Aside0 (Kd.R Kd.string T w1 W.heap.size (fun _ => True) v y) → Below W.heap.size W w1 → wpList P ops Q rest (a.put o.dst v) w1) (hgd : o.guard = none := by rfl) (hd : o.dst = some N := by rfl)
    (hrun : (execOp a.eval o).run P W = .ok (.value (.slice (some ⟨W.heap.size, 0, none⟩) xs.length xs.length)) (W.alloc (.cells (encs Value.string xs).toArray T)) := by first | (go_simp; done) | (go_simp; rfl)) (hl : xs.length ≤ 1000 := by simp) : wpList P ops Q (o :: rest) a W :=
  Kd.R_lit Kd.string W.heap.size T hgd hd (ok := fun _ => True) (okp := fun _ => True) hrun (Kd.reps_scalar xs) (fun _ hk => hk) trivial (Below.refl _ _) (Nat.le_refl _) (by omega) fun v w1 hr hb _ _ => h xs v w1 ⟨rfl⟩ ⟨hr⟩ hb
end
section
variable {w0 w W W1 : World} {g gb : Nat} {b : List Int} {R : Nat} {α : Type} {d : Kd α} {e base n c : Nat} {ok : Nat → Prop} {v : Value} {A : Option Addr} {xs : List α}
theorem dO (hD : DD w0 w g b R W) (h : d.R e W base ok (.slice A n c) xs) (he : e ≠ 77 := by decide) : ∀ ad, A = some ad → 0 < n → ad.block ≠ g := by
  rintro ad rfl _
  obtain ⟨p, _, _, hi⟩ := hD.i
  exact Kd.own_blk (hi.own_ne h he)
theorem rmany (x : ByteArray) (c : Int) (m B : Nat) (W : World) (hc : 0 ≤ c ∧ c ≤ (m : Int)) (hm : x.size * m ≤ B ∧ m ≤ 100000 ∧ B ≤ 1000000 := by decide) :
    Calls Tryz.prog 17 #[.string x, .int .i64 c] W fun e w' => ∃ s : ByteArray, e = .returned (.string s) ∧ Aside0 (s.size ≤ B) ∧ Drawn0 W w' := by
  have hcm : x.size * c.toNat ≤ x.size * m := Nat.mul_le_mul_left _ (by omega)
  obtain ⟨s, ⟨k, e⟩, hs⟩ := many_f c.toNat c x (by omega) (by omega) (by omega)
  exact (spec_l1Many.calls k x c s W (e k (Nat.le_refl _))).mono fun e w' h => ⟨s, h.1, ⟨by omega⟩, h.2⟩
theorem l2c (nn : ByteArray) (l : List S46) (h : l.length ≤ 100) : spec_l2Copy.f nn l = some (nn, l) := by
  unfold spec_l2Copy.f
  simp
  omega
theorem swt (r : Int) (p : Prop) [Decidable p] : (r == 0) = true ∨ ((r == 0) = false ∧ (r == 1) = true) ∨ ((r == 0) = false ∧ (r == 1) = false ∧ p = True) ∨ ((r == 0) = false ∧ (r == 1) = false ∧ p = False) := by
  cases h0 : (r == 0) <;> cases h1 : (r == 1) <;> by_cases h2 : p <;> simp [h2]
end
theorem wfrd {l : List S46} (h : ∀ q ∈ l, Wf q) {i : Int} (h0 : 0 ≤ i) (h1 : i < (l.length : Int)) : Wf (rd_T46 l i) := by
  have hl : i.toNat < l.length := by omega
  unfold rd_T46
  rw [List.getD_eq_getElem?_getD, List.getElem?_eq_getElem hl]
  exact h _ (List.getElem_mem hl)
section
variable {w0 w W : World} {g gg n c base : Nat} {b : List Int} {R : Nat} {ok : Nat → Prop} {l : List S46} {i : Int}
theorem el6 (h : Kd.R k46 46 W base ok (.slice (some ⟨gg, 0, none⟩) n c) l) (h0 : 0 ≤ i) (h1 : i < (n : Int)) : (W.cell? ⟨gg, i.toNat * 6, none⟩ = some (.int .i64 (rd_T46 l i).f0) ∧ W.cell? ⟨gg, i.toNat * 6 + 1, none⟩ = some (.int .i64 (rd_T46 l i).f1) ∧ W.cell? ⟨gg, i.toNat * 6 + 2, none⟩ = some (.int .i64 (rd_T46 l i).f2) ∧ W.cell? ⟨gg, i.toNat * 6 + 3, none⟩ = some (.int .i64 (rd_T46 l i).f3) ∧ W.cell? ⟨gg, i.toNat * 6 + 4, none⟩ = some (.int .i64 (rd_T46 l i).f4) ∧ W.cell? ⟨gg, i.toNat * 6 + 5, none⟩ = some (.int .i64 (rd_T46 l i).f5)) ∧ ∀ j, W.frozen? ⟨gg, i.toNat * 6 + j, none⟩ = false := by
  obtain ⟨ce, hl, hM, hc, hf⟩ := Kd.R_elem h z46 i h0 h1
  obtain rfl := k46_openM hM
  exact ⟨⟨hc 0 _ rfl, hc 1 _ rfl, hc 2 _ rfl, hc 3 _ rfl, hc 4 _ rfl, hc 5 _ rfl⟩, hf⟩
theorem seg6 (h : Kd.R k46 46 W w.heap.size (fun _ => True) (.slice (some ⟨gg, 0, none⟩) n c) l) (hD : DD w0 w g b R W) (hg : w.heap.size ≤ gg) (h0 : 0 ≤ i) (h1 : i < (n : Int)) (y : S46) (W6 : World) (hW : W.setCells gg (i.toNat * 6) [.int .i64 y.f0, .int .i64 y.f1, .int .i64 y.f2, .int .i64 y.f3, .int .i64 y.f4, .int .i64 y.f5] = W6) :
    Aside0 (Kd.R k46 46 W6 w.heap.size (fun _ => True) (.slice (some ⟨gg, 0, none⟩) n c) (l.set i.toNat y)) ∧ Aside0 (DD w0 w g b R W6) ∧ ∀ (g' : Nat) (t : TypeId) (cs : Array Value), t ≠ 46 → W.heap[g']? = some (.cells cs t (0, 0)) → Aside0 (W6.heap[g']? = some (.cells cs t (0, 0))) := by
  subst hW
  obtain ⟨ce, hl, hM, hc, hf⟩ := Kd.R_elem h z46 i h0 h1
  obtain rfl := k46_openM hM
  have hs : Kd.R k46 46 (W.setCells gg (i.toNat * 6) [.int .i64 y.f0, .int .i64 y.f1, .int .i64 y.f2, .int .i64 y.f3, .int .i64 y.f4, .int .i64 y.f5]) w.heap.size (fun _ => True) (.slice (some ⟨gg, 0, none⟩) n c) (l.set i.toNat y) ∧ W.grownBy (W.setCells gg (i.toNat * 6) [.int .i64 y.f0, .int .i64 y.f1, .int .i64 y.f2, .int .i64 y.f3, .int .i64 y.f4, .int .i64 y.f5]) (some gg) := Kd.R_seg h i h0 h1 (seg := [.int .i64 y.f0, .int .i64 y.f1, .int .i64 y.f2, .int .i64 y.f3, .int .i64 y.f4, .int .i64 y.f5]) (j := 0) hl hc (show 6 ≤ 6 from by decide) (x' := y) (k46_mkM _ _ _ y) (fun _ hk => hk)
  generalize W.setCells gg (i.toNat * 6) [.int .i64 y.f0, .int .i64 y.f1, .int .i64 y.f2, .int .i64 y.f3, .int .i64 y.f4, .int .i64 y.f5] = W6 at hs
  have hb : Below w.heap.size W W6 := (Below.refl w.heap.size W).grown hs.2 (keep_size hD.k) (fun k e => by injection e with e; subst e; exact hg)
  exact ⟨⟨hs.1⟩, DD.app hD h hs.2 hb, fun g' t cs ht hb2 => bgr (v := .slice (some ⟨gg, 0, none⟩) n c) hb2 hs.2 (Kd.R_ne h hb2 (Ne.symm ht))⟩
end
structure TU (w0 w : World) (g : Nat) (b : List Int) (nn : ByteArray) (g2 g3 : Nat) (R : Nat) (W : World) (u : Value) (xs : List S46) : Prop where
  q1 : Aside0 (W.heap[g2]? = some (.cells #[.string (⟨#[]⟩ : ByteArray), .slice none 0 0] 33 (0, 0)))
  q2 : Aside0 (W.heap[g3]? = some (.cells #[.string nn, u] 33 (0, 0)))
  q4 : Aside0 (Kd.R k46 46 W w.heap.size (fun _ => True) u xs)
  q5 : Aside0 (DD w0 w g b R W)
  q6 : Aside0 (∀ q ∈ xs, Wf q)
def rspt.T5 : Bool × List (List Nat × List Nat) := (true, [([], []), ([0], [0]), ([], []), ([], []), ([], []), ([4], [4]), ([], []), ([5, 6], [5, 6]), ([7], [7]), ([3, 8], [3, 8]), ([1, 2, 0, 1, 2, 3, 4, 5, 6, 7, 8, 9], [1, 2]), ([10, 9, 9, 0, 1, 2, 3, 4, 5, 6, 7, 8, 9], [9, 10])])
def rspt.B5 : List Nat := [0, 1, 0, 0, 0, 16, 0, 112, 240, 504, 1023, 2047]
theorem rspt.t5 : rtab .any (opsOf Tryz.f43 5) = rspt.T5 := by kernel_rfl
theorem rspt.b5 : waitsOk rspt.T5.2 rspt.B5 = true := by kernel_rfl
theorem rspt {w0 w W : World} {g : Nat} {b : List Int} {R B0 : Nat} {ok : Nat → Prop} (nn : ByteArray) {A : Option Addr} {c : Nat} {l : List S46} (hl : l.length ≤ 100) (hx : ∀ q ∈ l, Wf q) (hR : Kd.R k46 46 W B0 ok (.slice A l.length c) l) (hD : DD w0 w g b (R + 900) W) :
    Calls Tryz.prog 43 #[.pointer (some ⟨g, 0, none⟩), .agg #[.string nn, .slice A l.length c]] W fun e w' => ∃ x : ByteArray × Value × List S46, e = .returned (.agg #[.string x.1, x.2.1]) ∧ Aside0 ((∀ q ∈ x.2.2, Wf q) ∧ x.2.2.length ≤ 100 ∧ x.1.size ≤ 20 + nn.size) ∧ Kd.R k46 46 w' W.heap.size (fun _ => True) x.2.1 x.2.2 ∧ DD w0 W g b R w' := by
  have HD := hD.start
  have HR := ra hR
  have HX := ra hx
  have HL := ra hl
  clear hD hR hx hl
  have hu1 := Tryz.underlying33
  have hu2 := Tryz.underlying46
  go_enter Tryz.func43, Tryz.ntmps43
  try go_wp2_with (first | ((with_reducible refine gd 3 rfl ?_); refine be 3 #[.string nn, .slice A l.length c] 33 ?_; intro g1 hg w_ hbox hb_; have H1 := ra hbox; obtain ⟨Ag1, Bg1, Cg1⟩ := dn hg (dq HD); replace HR := ra (Kd.R_below (rq HR) hb_); replace HD := ra ((dq HD).below hb_); clear hb_ hbox hg; obtain ⟨_, _, _, _⟩ := zc2 H1) | ((with_reducible refine gd 4 rfl ?_); refine be 4 #[.string (⟨#[]⟩ : ByteArray), .slice none 0 0] 33 ?_; intro g2 hg w_ hbox hb_; have H2 := ra hbox; obtain ⟨Ag2, Bg2, Cg2⟩ := dn hg (dq HD); have Ng1g2 := bn hg (bk H1); have Ng2g1 := bm hg (bk H1); replace H1 := bb (bk H1) hb_; replace HR := ra (Kd.R_below (rq HR) hb_); replace HD := ra ((dq HD).below hb_); clear hb_ hbox hg; have := Ng1g2.out; have := Ng2g1.out; obtain ⟨_, _, _, _⟩ := zc2 H1) | ((with_reducible refine gd 9 rfl ?_); refine gm (some 9) Tryz.func67 (spec_l2Copy.calls _ _ _ _ _ _ _ (Kd.R_reads' HR.out).2.2 (Kd.R_reads' HR.out).2.1 (l2c _ _ HL.out)) ?_; rintro e w_ ⟨u, rfl, ho, hb⟩; obtain ⟨Au, cu, rfl⟩ := Kd.R_slice ho; refine ⟨_, rfl, ?_⟩; have HO := ra (Kd.R_lower ho (keep_size (dq HD).k)); replace H2 := bb (bk H2) hb; replace HD := ra ((dq HD).below hb); clear ho hb H1 HR) | ((with_reducible refine gd 5 rfl ?_); refine be 5 #[.string (⟨#[]⟩ : ByteArray), .slice none 0 0] 33 ?_; intro g3 hg w_ hbox hb_; have H3 := ra hbox; obtain ⟨Ag3, Bg3, Cg3⟩ := dn hg (dq HD); have Ng2g3 := bn hg (bk H2); have Ng3g2 := bm hg (bk H2); replace H2 := bb (bk H2) hb_; replace HO := ra (Kd.R_below (rq HO) hb_); replace HD := ra ((dq HD).below hb_); clear hb_ hbox hg; have := Ng2g3.out; have := Ng3g2.out; have := Bg2.out; have := Cg2.out; have := Bg3.out; have := Cg3.out; obtain ⟨_, _, _, _⟩ := zc2 H3) | ((with_reducible refine gd 11 rfl ?_); refine gz (some 11) Tryz.func13 (rpick 4 (dq HD)) ?_; rintro r11 w_ ⟨-, hd⟩; replace HO := dR (dq HD) (Kd.R_mono (rf (Kd.R_types HO.out H3.out (by decide))) (fun _ hk => hk.1)) hd; replace H2 := kv hd.k (bk H2) Cg2; replace H3 := kp #[.string nn, .slice Au l.length cu] hd.k (bp H3) Cg3; replace HD := dt (dq HD) hd; clear hd; obtain ⟨_, _, _, _⟩ := zc2 H2; obtain ⟨_, _, _, _⟩ := zc2 H3; rcases swt r11 (0 < l.length) with c1 | ⟨c1, c2⟩ | ⟨c1, c2, c3⟩ | ⟨c1, c2, c3⟩) | ((with_reducible refine gd 36 rfl ?_); refine gz (some 36) Tryz.func13 (rpick 2 (dq HD)) ?_; rintro r36 w_ ⟨Rr36, hd⟩; replace H2 := kv hd.k (bk H2) Cg2; replace H3 := kv hd.k (bk H3) Cg3; replace HO := dR (dq HD) (rq HO) hd; replace HD := dt (dq HD) hd; clear hd) | ((with_reducible refine gd 38 rfl ?_); refine gz (some 38) Tryz.func17 (rmany ⟨#[110]⟩ (wrap64 (8 + r36)) 9 9 _ (by have := Rr36.out; unfold wrap64; omega)) ?_; rintro s w_ ⟨hs, nd, rfl⟩) | ((with_reducible refine gd 39 rfl ?_); refine slit 39 (T := 9) (xs := [⟨#[]⟩, ⟨#[65]⟩, s]) ?_; intro y v w_ hy HS hb_; obtain ⟨As, cs, rfl⟩ := Kd.R_slice HS.out; replace HO := ra (Kd.R_below (rq HO) hb_); replace H2 := bb (bk H2) hb_; replace H3 := bb (bk H3) hb_; replace HD := ra ((dq HD).below hb_); clear hb_) | ((with_reducible refine gd 40 rfl ?_); refine gz (some 40) Tryz.func16 (rof (dq HD) (Kd.R_reads' HS.out).2.2 (Kd.R_reads' HS.out).2.1 (dO HD.out HS.out) (by rw [hy.out]; simp)) ?_; rintro t w_ ⟨ht, hd⟩; replace H2 := kv hd.k (bk H2) Cg2; replace H3 := kv hd.k (bk H3) Cg3; replace HO := dR (dq HD) (rq HO) hd; replace HD := dt (dq HD) hd; clear hd; obtain ⟨_, _, _, _⟩ := zc2 H2; obtain ⟨_, _, _, _⟩ := zc2 H3) | ((with_reducible refine gd 45 rfl ?_); refine gz (some 45) Tryz.func13 (rpick 2 (dq HD)) ?_; rintro r45 w_ ⟨Rr45, hd⟩; replace H2 := kv hd.k (bk H2) Cg2; replace H3 := kv hd.k (bk H3) Cg3; replace HO := dR (dq HD) (rq HO) hd; replace HD := dt (dq HD) hd; clear hd) | ((with_reducible refine gd 20 rfl ?_); refine gz (some 20) Tryz.func13 (rpick (l.length : Int) (dq HD) (by have := of_eq_true c3; omega)) ?_; rintro r20 w_ ⟨R20, hd⟩; replace H2 := kv hd.k (bk H2) Cg2; replace H3 := kv hd.k (bk H3) Cg3; replace HO := dR (dq HD) (rq HO) hd; replace HD := dt (dq HD) hd; clear hd))
  rotate_left 2
  · obtain ⟨gg, cg, eg, gb_, _⟩ := Kd.R_form HO.out (of_eq_true c3)
    cases eg
    have HG := ra gb_; clear gb_
    have e0 := R20.out.1; have e1 := R20.out.2
    refine start_ (n := 12) (S := fun w' => w'.cell? ⟨g3, 1, none⟩ = some (.slice (some ⟨gg, 0, none⟩) l.length cu) ∧ w'.cell? ⟨gg, r20.toNat * 6, none⟩ = some (.int .i64 (rd_T46 l r20).f0) ∧ w'.cell? ⟨gg, r20.toNat * 6 + 1, none⟩ = some (.int .i64 (rd_T46 l r20).f1) ∧ w'.cell? ⟨gg, r20.toNat * 6 + 2, none⟩ = some (.int .i64 (rd_T46 l r20).f2) ∧ w'.cell? ⟨gg, r20.toNat * 6 + 3, none⟩ = some (.int .i64 (rd_T46 l r20).f3) ∧ w'.cell? ⟨gg, r20.toNat * 6 + 4, none⟩ = some (.int .i64 (rd_T46 l r20).f4) ∧ w'.cell? ⟨gg, r20.toNat * 6 + 5, none⟩ = some (.int .i64 (rd_T46 l r20).f5)) (ds := [11]) (bl 12 0) (by kernel_rfl) rfl rfl ⟨(blk_cell (bk H3) 1).trans rfl, (el6 (rq HO) e0 e1).1⟩ (fun hHeld => ?_)
    refine with_tabW rspt.t5 rspt.b5 (fun HT_ HW_ => ?_)
    have p0 := eq_true e0; have p1 := eq_true e1
    refine pu 0 21 (bl 12 1) ?_
    refine pu 2 23 (bl 12 5) ?_
    refine pu 3 24 (bl 12 13) ?_
    refine pu 4 25 (bl 12 29) ?_
    refine pu 6 27 (bl 12 93) ?_
    refine tk 1 22 (bl 12 95) ?_ hHeld
    refine tk 5 26 (bl 12 127) ?_ hHeld
    refine pu 7 28 (bl 12 255) ?_
    refine tk 8 29 (bl 12 511) ?_ hHeld
    refine oe 9 30 (bl 12 1023) (fun K hK => ?_)
    refine gt Tryz.func68 (rspoil _ (wfrd HX.out e0 e1) (dq HD)) ?_
    rintro y w_ ⟨HY, hd⟩
    replace H2 := kv hd.k (bk H2) Cg2; replace H3 := kv hd.k (bk H3) Cg3; replace HO := dR (dq HD) (rq HO) hd; replace HD := dt (dq HD) hd; clear hd
    have e6 := el6 HO.out e0 e1
    refine hK.out _ _ ⟨(blk_cell H3.out 1).trans rfl, e6.1⟩ (fun hHeld => ?_)
    clear hK K
    refine nm 30 ?_
    refine pu 10 31 (bl 12 2047) ?_
    refine last_ (i := 11) (N := none) (bl 12 4095) rfl rfl (one_of HT_.out (by kernel_rfl)) (by decide) (fun K hK => ?_)
    obtain ⟨⟨_, _, _, _, _, _⟩, e7⟩ := e6
    have : w_.frozen? ⟨gg, r20.toNat * 6, none⟩ = false := e7 0; have := e7 1; have := e7 2; have := e7 3; have := e7 4; have := e7 5; clear e7
    refine skip_ (w1 := w_.setCells gg (r20.toNat * 6) [.int .i64 y.f0, .int .i64 y.f1, .int .i64 y.f2, .int .i64 y.f3, .int .i64 y.f4, .int .i64 y.f5]) (by rfl) rfl ?_ ?_
    · go_simp
      rfl
    refine hK.out _ _ ?_
    clear hK K
    refine done_ (done_of HT_.out (by kernel_rfl)) ?_
    generalize hW : w_.setCells gg (r20.toNat * 6) [.int .i64 y.f0, .int .i64 y.f1, .int .i64 y.f2, .int .i64 y.f3, .int .i64 y.f4, .int .i64 y.f5] = W6
    obtain ⟨HO2, HD2, hm⟩ := seg6 HO.out (dq HD) HG.out e0 e1 y W6 hW
    replace H2 := hm _ _ _ (by decide) H2.out
    replace H3 := hm _ _ _ (by decide) H3.out
    clear hm hW HO HD
    have := Ng2g3.out; have := Ng3g2.out; have := Bg2.out; have := Cg2.out; have := Bg3.out; have := Cg3.out; obtain ⟨_, _, _, _⟩ := zc2 H2; obtain ⟨_, _, _, _⟩ := zc2 H3
    try go_wp2
    refine bodyPost_ret (results_cell_row rfl _ _ g2 33 #[.string nn, .slice (some ⟨gg, 0, none⟩) l.length cu] (0, 0) _ rfl (bp H2) Tryz.underlying33 rfl (by kernel_rfl)) rfl ?_
    exact ⟨⟨_, _, l.set r20.toNat y⟩, rfl, ⟨fun q hq => (List.mem_or_eq_of_mem_set hq).elim (HX.out q) (fun h => by rw [h]; exact HY.out), by show (l.set r20.toNat y).length ≤ 100; rw [List.length_set]; exact HL.out, Nat.le_add_left _ _⟩, Kd.R_mono (rf (Kd.R_types (Kd.R_types HO2.out H3.out (by decide)) H2.out (by decide))) (fun _ _ => trivial), (dq HD2).less⟩
  · refine bodyPost_ret (results_cell_row rfl _ _ g2 33 #[.string nn, .slice Au l.length cu] (0, 0) _ rfl (bp H2) Tryz.underlying33 rfl (by kernel_rfl)) rfl ?_
    exact ⟨⟨_, _, l⟩, rfl, ⟨HX.out, HL.out, Nat.le_add_left _ _⟩, Kd.R_mono (rf (Kd.R_types (Kd.R_types HO.out H3.out (by decide)) H2.out (by decide))) (fun _ _ => trivial), (dq HD).less⟩
  · refine bodyPost_ret (results_cell_row rfl _ _ g2 33 #[.string t, .slice Au l.length cu] (0, 0) _ rfl (bp H2) Tryz.underlying33 rfl (by kernel_rfl)) rfl ?_
    exact ⟨⟨_, _, l⟩, rfl, ⟨HX.out, HL.out, by
      have h := ht.out; have h2 := hs.out
      rw [hy.out] at h
      simp only [List.mem_cons, List.not_mem_nil, or_false] at h
      show t.size ≤ _
      rcases h with rfl | rfl | rfl <;> first | omega | exact Nat.le_trans (by decide) (Nat.le_add_right _ _)⟩, Kd.R_mono (rf (Kd.R_types (Kd.R_types HO.out H3.out (by decide)) H2.out (by decide))) (fun _ _ => trivial), (dq HD).less⟩
  go_loopg [] 43 (fun kq w' => ∃ (u : Value) (xs : List S46), Aside0 (xs.length ≤ 100 ∧ 1 ≤ kq ∧ 41 < xs.length + kq) ∧ TU w0 W g b nn g2 g3 (R + 12 * kq) w' u xs)
  case atStart => exact ⟨_, _, ⟨HL.out, by omega, by omega⟩, ⟨bk H2⟩, ⟨bk H3⟩, ⟨rq HO⟩, ⟨(dq HD).less⟩, HX⟩
  clear H2 H3 HO HD HX HL
  obtain ⟨u, xs, HN, H2, H3, HO, HD, HX⟩ := hrel
  obtain _ | k2 := gk
  ·exact absurd HN.out (by omega)
  obtain ⟨Ao, co, rfl⟩ := Kd.R_slice HO.out
  replace HD : Aside0 (DD w0 W g b (R + 12 * k2 + 12) _) := ⟨HD.out.less (by omega)⟩
  have := Ng2g3.out; have := Ng3g2.out; have := Bg2.out; have := Cg2.out; have := Bg3.out; have := Cg3.out; obtain ⟨_, _, _, _⟩ := zc2 H2; obtain ⟨_, _, _, _⟩ := zc2 H3
  rcases dc ((xs.length : Int) < wrap64 (40 + r45)) with c3 | c3
  rotate_left
  · try go_wp2
    refine bodyPost_ret (results_cell_row rfl _ _ g2 33 #[.string nn, .slice Ao xs.length co] (0, 0) _ rfl (bp H2) Tryz.underlying33 rfl (by kernel_rfl)) rfl ?_
    exact ⟨⟨_, _, xs⟩, rfl, ⟨HX.out, HN.out.1, Nat.le_add_left _ _⟩, Kd.R_mono (rf (Kd.R_types (Kd.R_types HO.out H3.out (by decide)) H2.out (by decide))) (fun _ _ => trivial), (dq HD).less⟩
  try go_wp2
  refine start_ (n := 8) (S := fun w' => w'.cell? ⟨g3, 1, none⟩ = some (.slice Ao xs.length co)) (ds := [7]) (bl 8 0) (by kernel_rfl) rfl rfl ((blk_cell (bk H3) 1).trans rfl) (fun hHeld => ?_)
  refine pu 0 52 (bl 8 1) ?_
  refine pu 2 54 (bl 8 5) ?_
  refine tk 1 53 (bl 8 7) ?_ hHeld
  refine oe 3 55 (bl 8 15) (fun K hK => ?_)
  refine gt Tryz.func65 (rbox (dq HD)) ?_
  rintro y2 w_ ⟨HY2, hd⟩
  replace H2 := kv hd.k (bk H2) Cg2; replace H3 := kv hd.k (bk H3) Cg3; replace HO := dR (dq HD) (rq HO) hd; replace HD := dt (dq HD) hd; clear hd
  refine hK.out _ _ ((blk_cell H3.out 1).trans rfl) (fun hHeld => ?_)
  clear hK K
  refine nm 55 ?_
  refine oe 4 56 (bl 8 31) (fun K hK => ?_)
  refine value_ (w1 := ?_) (v := ?_) (by rfl) rfl ?_ ?_
  rotate_left 2
  · go_simp
    constructor <;> rfl
  refine hK.out _ _ ((blk_cell (blk_alloc H3.out _) 1).trans rfl) (fun hHeld => ?_)
  clear hK K
  refine nm 56 ?_
  refine oe 5 57 (bl 8 63) (fun K hK => ?_)
  refine Kd.R_append_step k46 W.heap.size (by rfl) (.tmp 53) (.tmp 56) 31 46 (.agg #[.int .i64 0, .int .i64 0, .int .i64 0, .int .i64 0, .int .i64 0, .int .i64 0]) 48 rfl Tryz.underlying31 info46 rfl (by decide) (by omega) _ xs y2 [.int .i64 y2.f0, .int .i64 y2.f1, .int .i64 y2.f2, .int .i64 y2.f3, .int .i64 y2.f4, .int .i64 y2.f5] (fun _ => True) (fun _ => False) rfl rfl ?aP (fun _ hk => hk.elim) ?aF ?aO (Below.refl _ _) ?aS ?aL ?_; (case aP => exact k46_mkM _ _ _ y2); (case aF => exact fun _ _ => trivial); (case aO => exact rq HO); (case aS => exact keep_size (dq HD).k); (case aL => have := HN.out; omega); intro v1 w_ ho hb hg _; obtain ⟨xs2, hxs⟩ : ∃ l, l = xs ++ [y2] := ⟨_, rfl⟩; rw [← hxs] at ho; have HX2 := ra hxs; clear hxs; obtain ⟨Av, cv, rfl⟩ := Kd.R_slice ho; replace HD := DD.app (dq HD) (rq HO) hg hb; replace H2 := bgr (bk H2) hg (Kd.R_ne HO.out H2.out (by decide)); replace H3 := bgr (bk H3) hg (Kd.R_ne HO.out H3.out (by decide)); replace HO := ra ho; clear ho hb hg
  refine hK.out _ _ ((blk_cell H3.out 1).trans rfl) (fun hHeld => ?_)
  clear hK K
  refine nm 57 ?_
  refine pu 6 58 (bl 8 127) ?_
  refine last_ (i := 7) (N := none) (bl 8 255) rfl rfl (by kernel_rfl) (by decide) (fun K hK => ?_)
  have := Ng2g3.out; have := Ng3g2.out; have := Bg2.out; have := Cg2.out; have := Bg3.out; have := Cg3.out; obtain ⟨_, _, _, _⟩ := zc2 H2; obtain ⟨_, _, _, _⟩ := zc2 H3
  refine skip_ (w1 := ?_) (by rfl) rfl ?_ ?_
  rotate_left
  · go_simp
    rfl
  refine hK.out _ _ ?_
  clear hK K
  refine done_ (by kernel_rfl) ?_
  try go_wp2
  go_roundg k2
  case measure => have := HN.out; omega
  exact ⟨.slice Av xs2.length cv, xs2, ⟨by have h1 := of_decide_eq_true c3; have := HN.out; have := Rr45.out; rw [HX2.out, List.length_append, List.length_singleton]; unfold wrap64 at h1; omega⟩, ⟨bk H2⟩, ⟨bp H3⟩, ⟨(Kd.R_mono (rf (Kd.R_types HO.out H3.out (by decide))) (fun _ hk => hk.1))⟩, ⟨(dq HD).less⟩, ⟨by rw [HX2.out]; exact fun q hq => (List.mem_append.1 hq).elim (HX.out q) fun h => by rw [List.mem_singleton.1 h]; exact HY2.out⟩⟩
theorem rany {w0 w W : World} {g : Nat} {b : List Int} {R : Nat} (hD : DD w0 w g b (R + 2000) W) :
    Calls Tryz.prog 14 #[.pointer (some ⟨g, 0, none⟩)] W fun e w' => ∃ x : ByteArray × Value × List S46, e = .returned (.agg #[.string x.1, x.2.1]) ∧ Aside0 ((∀ q ∈ x.2.2, Wf q) ∧ x.2.2.length ≤ 100 ∧ x.1.size ≤ 30) ∧ Kd.R k46 46 w' W.heap.size (fun _ => True) x.2.1 x.2.2 ∧ DD w0 W g b R w' := by
  have HD := hD.start
  clear hD
  have hu1 := Tryz.underlying33
  have hu2 := Tryz.underlying46
  go_enter Tryz.func14, Tryz.ntmps14
  try go_wp2_with (first | ((with_reducible refine gd 2 rfl ?_); refine be 2 #[.string (⟨#[]⟩ : ByteArray), .slice none 0 0] 33 ?_; intro g1 hg w_ hbox hb_; have H1 := ra hbox; obtain ⟨Ag1, Bg1, Cg1⟩ := dn hg (dq HD); replace HD := ra ((dq HD).below hb_); clear hb_ hbox hg) | ((with_reducible refine gd 6 rfl ?_); refine slit 6 (T := 9) (xs := [⟨#[97, 49]⟩, ⟨#[98]⟩, ⟨#[99, 45, 99]⟩, ⟨#[113]⟩]) ?_; intro y v w_ hy HS hb_; obtain ⟨As, cs, rfl⟩ := Kd.R_slice HS.out; replace H1 := bb (bk H1) hb_; replace HD := ra ((dq HD).below hb_); clear hb_) | ((with_reducible refine gd 7 rfl ?_); refine gz (some 7) Tryz.func16 (rof (dq HD) (Kd.R_reads' HS.out).2.2 (Kd.R_reads' HS.out).2.1 (dO HD.out HS.out) (by rw [hy.out]; simp)) ?_; rintro s w_ ⟨ht, hd⟩; replace H1 := kv hd.k (bk H1) Cg1; replace HD := dt (dq HD) hd; clear hd; have hn : Aside0 (s.size ≤ 3) := (by have h := ht.out; rw [hy.out] at h; simp only [List.mem_cons, List.not_mem_nil, or_false] at h; refine ⟨?_⟩; rcases h with rfl | rfl | rfl | rfl <;> decide); clear ht HS hy) | ((with_reducible refine gd 8 rfl ?_); refine gz (some 8) Tryz.func42 (rtube s (dq HD)) ?_; rintro ⟨u, l⟩ w_ ⟨hl, ho, hd⟩; dsimp only at hl ho ⊢; obtain ⟨Au, cu, rfl⟩ := Kd.R_slice ho; have HO := ra (Kd.R_lower ho (keep_size (dq HD).k)); replace H1 := kv hd.k (bk H1) Cg1; replace HD := dt (dq HD) hd; clear hd; clear ho) | ((with_reducible refine gd 3 rfl ?_); refine be 3 #[.string (⟨#[]⟩ : ByteArray), .slice none 0 0] 33 ?_; intro g2 hg w_ hbox hb_; have H2 := ra hbox; obtain ⟨Ag2, Bg2, Cg2⟩ := dn hg (dq HD); have Ng1g2 := bn hg (bk H1); have Ng2g1 := bm hg (bk H1); replace H1 := bb (bk H1) hb_; replace HO := ra (Kd.R_below (rq HO) hb_); replace HD := ra ((dq HD).below hb_); clear hb_ hbox hg; have := Ng1g2.out; have := Ng2g1.out; have := Bg2.out; have := Cg2.out; have := Bg1.out; have := Cg1.out; obtain ⟨_, _, _, _⟩ := zc2 H2) | ((with_reducible refine gd 10 rfl ?_); refine gz (some 10) Tryz.func13 (rpick 14 (dq HD)) ?_; rintro r10 w_ ⟨-, hd⟩; replace HO := dR (dq HD) (Kd.R_mono (rf (Kd.R_types HO.out H2.out (by decide))) (fun _ hk => hk.1)) hd; replace H1 := kv hd.k (bk H1) Cg1; replace H2 := kp #[.string s, .slice Au l.length cu] hd.k (bp H2) Cg2; replace HD := dt (dq HD) hd; clear hd; obtain ⟨_, _, _, _⟩ := zc2 H1; obtain ⟨_, _, _, _⟩ := zc2 H2; rcases sw1 r10 with c1 | c1) | ((with_reducible refine gd 14 rfl ?_); refine gz (some 14) Tryz.func43 (rspt s hl.out.2 hl.out.1 (rq HO) (dq HD)) ?_; rintro ⟨t, v, z⟩ w_ ⟨hz, ho, hd⟩; dsimp only at hz ho ⊢; obtain ⟨Av, cv, rfl⟩ := Kd.R_slice ho; replace HO := ra (Kd.R_lower ho (keep_size (dq HD).k)); replace H1 := kv hd.k (bk H1) Cg1; replace HD := dt (dq HD) hd; clear hd; clear ho; obtain ⟨_, _, _, _⟩ := zc2 H1))
  · refine bodyPost_ret (results_cell_row rfl _ _ g1 33 #[.string t, .slice Av z.length cv] (0, 0) _ rfl (bp H1) Tryz.underlying33 rfl (by kernel_rfl)) rfl ?_
    exact ⟨⟨_, _, z⟩, rfl, ⟨hz.out.1, hz.out.2.1, Nat.le_trans hz.out.2.2 (by have := hn.out; omega)⟩, Kd.R_mono (rf (Kd.R_types (Kd.R_types HO.out H1.out (by decide)) H1.out (by decide))) (fun _ _ => trivial), (dq HD).less⟩
  refine bodyPost_ret (results_cell_row rfl _ _ g1 33 #[.string s, .slice Au l.length cu] (0, 0) _ rfl (bp H1) Tryz.underlying33 rfl (by kernel_rfl)) rfl ?_
  exact ⟨⟨_, _, l⟩, rfl, ⟨hl.out.1, hl.out.2, by have := hn.out; show s.size ≤ 30; omega⟩, Kd.R_mono (rf (Kd.R_types (Kd.R_types HO.out H2.out (by decide)) H1.out (by decide))) (fun _ _ => trivial), (dq HD).less⟩
theorem lt9 {a : Nat} (h : a ≤ 1000000) : (9223372036854775807 < a) = False := eq_false (by omega)
theorem and2 (p q : Prop) [Decidable p] [Decidable q] : (decide p = true ∧ decide q = true) ∨ (decide p = true ∧ decide q = false) ∨ decide p = false := by cases decide p <;> cases decide q <;> simp
theorem rdec (n : Int) (hn : Rg n) (W : World) : Calls Tryz.prog 15 #[.int .i64 n] W fun e w' => ∃ s : ByteArray, e = .returned (.string s) ∧ Aside0 (s.size ≤ 19) ∧ Below W.heap.size W w' := by
  obtain ⟨s, ⟨k, e⟩, hs⟩ := dec_r hn
  exact (spec_l7Dec.calls k n s W (e k (Nat.le_refl _))).mono fun e w' h => ⟨s, h.1, ⟨hs⟩, h.2⟩
theorem and5 (p q r s t : Prop) [Decidable p] [Decidable q] [Decidable r] [Decidable s] [Decidable t] : decide p = false ∨ (decide p = true ∧ decide q = false) ∨ (decide p = true ∧ decide q = true ∧ decide r = false) ∨ (decide p = true ∧ decide q = true ∧ decide r = true ∧ decide s = false) ∨ (decide p = true ∧ decide q = true ∧ decide r = true ∧ decide s = true ∧ decide t = false) ∨ (decide p = true ∧ decide q = true ∧ decide r = true ∧ decide s = true ∧ decide t = true) := by cases decide p <;> cases decide q <;> cases decide r <;> cases decide s <;> cases decide t <;> simp
def rses.T13 : Bool × List (List Nat × List Nat) := (true, [([], []), ([0], [0]), ([], []), ([2], [2]), ([3], [3]), ([1, 4], [1, 4]), ([5], [5]), ([], []), ([7], [7]), ([8, 4], [8]), ([6, 9], [6, 9]), ([10], [10]), ([], []), ([12], [12]), ([13, 9], [13]), ([11, 14], [11, 14]), ([15], [15]), ([], []), ([17], [17]), ([18, 14], [18]), ([16, 19], [16, 19]), ([20], [20]), ([], []), ([22], [22]), ([23, 19], [23]), ([21, 24], [21, 24]), ([25], [25]), ([], []), ([27], [27]), ([28, 24], [28]), ([26, 29], [26, 29]), ([30], [30]), ([31, 29, 0, 1, 2, 3, 4, 5, 6, 7, 8, 9, 10, 11, 12, 13, 14, 15, 16, 17, 18, 19, 20, 21, 22, 23, 24, 25, 26, 27, 28, 29, 30, 31], [0, 31])])
def rses.B13 : List Nat := [0, 1, 0, 4, 12, 31, 63, 0, 128, 412, 1023, 2047, 0, 4096, 13212, 32767, 65535, 0, 131072, 422812, 1048575, 2097151, 0, 4194304, 13530012, 33554431, 67108863, 0, 134217728, 432960412, 1073741823, 2147483647, 4294967295]
theorem rses.t13 : rtab .any (opsOf Tryz.f7 13) = rses.T13 := by kernel_rfl
theorem rses.b13 : waitsOk rses.T13.2 rses.B13 = true := by kernel_rfl
theorem rses {A : Option Addr} {c : Nat} {code : List Int} {w : World} (hr : Kd.C (Kd.int .u8) w A code.length code) (hc : code.length ≤ c) (hb : ∀ x ∈ code, 0 ≤ x ∧ x ≤ 255) :
    Calls Tryz.prog 7 #[.slice A code.length c] w fun e w' => ∃ s : ByteArray, e = .returned (.string s) ∧ s.size ≤ 100000 ∧ Below w.heap.size w w' := by
  obtain ⟨b, ho, hB⟩ := open_ev code hb
  have HR := ra hr; have HC := ra hc; have HO := ra ho; have HQ := ra hB
  clear hr hc hb ho hB
  have hu1 := Tryz.underlying33
  have hu2 := Tryz.underlying46
  go_enter Tryz.func7, Tryz.ntmps7
  go_wp2_with (first | ((with_reducible refine gd 10 rfl ?_); refine gx (some 10) Tryz.func12 (spec_l1Open.calls _ _ _ _ _ _ _ (Below.refl _ _) HR.out HC.out HO.out) ?_; rintro g w1 ⟨hi, hb, -⟩; have HD : Aside0 (DD w w1 g b 20000 w1) := ⟨⟨⟨0, by decide, by decide, hi⟩, hb, KeepBut.refl _ _ _, hb.size, HQ.out⟩⟩; clear hi hb) | ((with_reducible refine gd 12 rfl ?_); refine gz (some 12) Tryz.func13 (rpick 7 (dq HD)) ?_; rintro r12 w_ ⟨Rr12, hd⟩; replace HD := dt (dq HD) hd; clear hd))
  go_loopg [4, 5] 8 (fun kq v4 v5 w' => ∃ (x : ByteArray) (n : Int), v4 = .string x ∧ v5 = .int .i64 n ∧ Aside0 (0 ≤ n ∧ n < (kq : Int) ∧ x.size + 3000 * kq ≤ 24000) ∧ Aside0 (DD w w1 g b (100 + 2100 * kq) w'))
  case atStart => exact ⟨⟨#[]⟩, r12, rs, rs, ⟨by have := Rr12.out; omega, by have := Rr12.out; omega, by decide⟩, ⟨(dq HD).less⟩⟩
  clear HR HC HO HQ HD Rr12
  obtain ⟨x, n, rfl, rfl, HN, HD⟩ := hrel
  rcases dc (0 < n) with c | c
  rotate_left
  · replace HD : Aside0 (DD w w1 g b (0 + 100) _) := ⟨HD.out.less (by omega)⟩
    have f1 := lt9 (a := x.size + 7) (by have := HN.out; omega)
    have f2 := lt9 (a := x.size + 4) (by have := HN.out; omega)
    try go_wp2_with (first | ((with_reducible refine gd 108 rfl ?_); refine gz (some 108) Tryz.func13 (rpick 24 (dq HD)) ?_; rintro r w_ ⟨-, hd⟩; replace HD := dt (dq HD) hd; clear hd; rcases sw3 r with c1 | ⟨c1, c2⟩ | ⟨c1, c2, c3⟩ | ⟨c1, c2, c3⟩) | ((with_reducible refine gd 112 rfl ?_); refine gz (some 112) Tryz.func13 (rpick 2 (dq HD)) ?_; rintro r1 w_ ⟨Rr, hd⟩; replace HD := dt (dq HD) hd; clear hd) | ((with_reducible refine gd 118 rfl ?_); refine gz (some 118) Tryz.func13 (rpick 2 (dq HD)) ?_; rintro r1 w_ ⟨Rr, hd⟩; replace HD := dt (dq HD) hd; clear hd) | ((with_reducible refine gd 126 rfl ?_); refine gz (some 126) Tryz.func13 (rpick 3 (dq HD)) ?_; rintro r1 w_ ⟨Rr, hd⟩; replace HD := dt (dq HD) hd; clear hd) | ((with_reducible refine gd 114 rfl ?_); refine gz (some 114) Tryz.func17 (rmany ⟨#[97, 108, 108, 10]⟩ (wrap64 (400 + r1)) 401 20001 _ (by have := Rr.out; unfold wrap64; omega)) ?_; rintro s w_ ⟨hs, nd, rfl⟩) | ((with_reducible refine gd 120 rfl ?_); refine gz (some 120) Tryz.func17 (rmany ⟨#[120]⟩ (wrap64 (20000 + r1)) 20001 20001 _ (by have := Rr.out; unfold wrap64; omega)) ?_; rintro s w_ ⟨hs, nd, rfl⟩) | ((with_reducible refine gd 128 rfl ?_); refine gz (some 128) Tryz.func17 (rmany ⟨#[98, 111, 120, 32, 49, 32, 49, 32, 49, 32, 49, 32, 49, 32, 49, 10]⟩ (wrap64 (40 + r1)) 42 20001 _ (by have := Rr.out; unfold wrap64; omega)) ?_; rintro s w_ ⟨hs, nd, rfl⟩; have h1 := lt9 (a := x.size + 7 + s.size) (by have := hs.out; have := HN.out; omega); have h2 := lt9 (a := x.size + 7 + s.size + 7) (by have := hs.out; have := HN.out; omega)))
    all_goals
      go_ret
      exact ⟨_, re, by have := HN.out; (try simp only [ByteArray.size_append]); have h1 : (⟨#[116, 117, 98, 101, 32, 97, 10]⟩ : ByteArray).size = 7 := rfl; have h2 : (⟨#[112, 117, 116, 10, 97, 108, 108]⟩ : ByteArray).size = 7 := rfl; have h3 : (⟨#[97, 108, 108, 10]⟩ : ByteArray).size = 4 := rfl; (try have := hs.out); omega, (dq HD).e⟩
  obtain _ | k1 := gk
  ·exact absurd HN.out (by have := of_decide_eq_true c; omega)
  replace HD : Aside0 (DD w w1 g b (100 + 2100 * k1 + 2100) _) := ⟨HD.out.less (by omega)⟩
  have f1 := lt9 (a := x.size + 5) (by have := HN.out; omega)
  go_wp2_with (first | ((with_reducible refine gd 18 rfl ?_); refine gz (some 18) Tryz.func14 (rany (dq HD)) ?_; rintro ⟨t, u, l⟩ w_ ⟨hl, ho, hd⟩; dsimp only at hl ho ⊢; obtain ⟨Au, cu, rfl⟩ := Kd.R_slice ho; have HO := ra (Kd.R_lower ho (keep_size (dq HD).k)); replace HD := dt (dq HD) hd; clear hd ho; have f2 := lt9 (a := x.size + 5 + t.size) (by have := HN.out; have := hl.out; omega); have f3 := lt9 (a := x.size + 5 + t.size + 1) (by have := HN.out; have := hl.out; omega)) | ((with_reducible refine gd 6 rfl ?_); refine be 6 #[.string (⟨#[]⟩ : ByteArray), .slice none 0 0] 33 ?_; intro g1 hg w_ hbox hb_; have H1 := ra hbox; obtain ⟨Ag1, Bg1, Cg1⟩ := dn hg (dq HD); replace HO := ra (Kd.R_below (rq HO) hb_); replace HD := ra ((dq HD).below hb_); clear hb_ hbox hg; have := Bg1.out; have := Cg1.out; obtain ⟨_, _, _, _⟩ := zc2 H1))
  go_loopg [4, 7] 10 (fun kq v4 v7 w' => ∃ (x : ByteArray) (i : Int), v4 = .string x ∧ v7 = .int .i64 i ∧ Aside0 (0 ≤ i ∧ i + kq = 10 ∧ i ≤ 9 ∧ x.size + 130 * kq + 3000 * k1 ≤ 22400) ∧ Aside0 (w'.heap[g1]? = some (.cells #[.string t, .slice Au l.length cu] 33 (0, 0))) ∧ Aside0 (Kd.R k46 46 w' w1.heap.size (fun _ => True) (.slice Au l.length cu) l) ∧ Aside0 (DD w w1 g b (100 + 2100 * k1 + 99) w'))
  case atStart => exact ⟨_, 0, rs, rs, ⟨by decide, by decide, by decide, by simp only [ByteArray.size_append]; have h1 : (⟨#[116, 117, 98, 101, 32]⟩ : ByteArray).size = 5 := rfl; have h2 : (⟨#[10]⟩ : ByteArray).size = 1 := rfl; have := HN.out; have := hl.out; omega⟩, ⟨bp H1⟩, ⟨Kd.R_mono (rf (Kd.R_types HO.out H1.out (by decide))) (fun _ _ => trivial)⟩, ⟨(dq HD).less⟩⟩
  clear H1 HO HD f1 f2 f3
  obtain ⟨x, i, rfl, rfl, HI, H1, HO, HD⟩ := hrel
  have := Bg1.out; have := Cg1.out; obtain ⟨_, _, _, _⟩ := zc2 H1
  rcases and2 (i < (l.length : Int)) (i < 9) with ⟨c1, c2⟩ | ⟨c1, c2⟩ | c1
  · obtain _ | k2 := gk
    ·exact absurd HI.out (by omega)
    have e0 := HI.out.1
    have e1 := of_decide_eq_true c1
    have hY := wfrd hl.out.1 e0 e1
    have HY := ra hY; clear hY
    obtain ⟨ad, ea, _, _, _, _, _, _⟩ := at_T46 (Kd.R_reads' HO.out).2.2 i e0 e1
    cases ea
    replace e0 := eq_true e0; replace e1 := eq_true e1
    go_upto_region 12 with (first | ((with_reducible refine gd 8 rfl ?_); refine be 8 #[.int .i64 0, .int .i64 0, .int .i64 0, .int .i64 0, .int .i64 0, .int .i64 0] 46 ?_; intro g2 hg w_ hbox hb_; have H2 := ra hbox; obtain ⟨Ag2, Bg2, Cg2⟩ := dn hg (dq HD); have Ng1g2 := bn hg (bk H1); have Ng2g1 := bm hg (bk H1); replace H1 := bb (bk H1) hb_; have HQ_ := HO; replace HO := ra (Kd.R_below (Kd.R_elderB (rq HO) g2 (Nat.le_of_eq hg.symm)) hb_); replace HD := ra ((dq HD).below hb_); clear hb_ hbox hg; clear HQ_; have := Ng1g2.out; have := Ng2g1.out; have := Bg2.out; have := Cg2.out; have := Bg1.out; have := Cg1.out; obtain ⟨_, _, _, _, _, _, _, _, _, _, _, _⟩ := zc6 H2))
    (try simp only [Act.put, List.setIfInBounds_toArray, List.set_cons_zero, List.set_cons_succ])
    go_cut [63] (fun v63 wc => ∃ tt : Bool, v63 = .bool tt ∧ Aside0 (wc.heap[g1]? = some (.cells #[.string t, .slice (some ad) l.length cu] 33 (0, 0))) ∧ Aside0 (wc.heap[g2]? = some (.cells #[.int .i64 (rd_T46 l i).f0, .int .i64 (rd_T46 l i).f1, .int .i64 (rd_T46 l i).f2, .int .i64 (rd_T46 l i).f3, .int .i64 (rd_T46 l i).f4, .int .i64 (rd_T46 l i).f5] 46 (0, 0))) ∧ Aside0 (Kd.R k46 46 wc w1.heap.size (fun _ => True) (.slice (some ad) l.length cu) l) ∧ Aside0 (DD w w1 g b (100 + 2100 * k1 + 99) wc))
    case first =>
      have := Ng1g2.out; have := Ng2g1.out; have := Bg2.out; have := Cg2.out; have := Bg1.out; have := Cg1.out; obtain ⟨_, _, _, _, _, _, _, _, _, _, _, _⟩ := zc6 H2
      rcases and5 (0 ≤ (rd_T46 l i).f0) (0 ≤ (rd_T46 l i).f1) (0 ≤ (rd_T46 l i).f2) (0 ≤ (rd_T46 l i).f4) ((rd_T46 l i).f0 < 99) with d0 | ⟨d0, d1⟩ | ⟨d0, d1, d2⟩ | ⟨d0, d1, d2, d3⟩ | ⟨d0, d1, d2, d3, d4⟩ | ⟨d0, d1, d2, d3, d4⟩
      all_goals
        go_wp2
        go_meet
        case rel => exact ⟨_, rs, ⟨bk H1⟩, ⟨bp H2⟩, ⟨Kd.R_mono (rf (Kd.R_mono HO.out (fun k_ hk => (⟨hk, hk.2⟩ : _ ∧ k_ ≠ g2)))) (fun _ _ => trivial)⟩, ⟨dq HD⟩⟩
    clear H1 H2 HO HD
    obtain ⟨tt, rfl, H1, H2, HO, HD⟩ := hcut
    cases tt
    · go_wp2
      go_roundg k2
      case measure => have := HI.out; omega
      exact ⟨_, wrap64 (i + 1), rs, rs, ⟨by have := HI.out; have := of_decide_eq_true c2; have h9 : wrap64 (i + 1) = i + 1 := (by unfold wrap64; omega); rw [h9]; omega⟩, ⟨bk H1⟩, ⟨rq HO⟩, ⟨dq HD⟩⟩
    obtain ⟨y0, y1, y2, y3, y4, y5⟩ := HY.out
    have Y0 := ra y0; have Y1 := ra y1; have Y2 := ra y2; have Y3 := ra y3; have Y4 := ra y4; have Y5 := ra y5
    clear y0 y1 y2 y3 y4 y5 HY
    have f0 := lt9 (a := x.size + 4) (by have := HI.out; omega)
    try go_wp2
    refine start_ (n := 33) (S := fun w' => w'.cell? ⟨g2, 0, none⟩ = some (.int .i64 (rd_T46 l i).f0) ∧ w'.cell? ⟨g2, 1, none⟩ = some (.int .i64 (rd_T46 l i).f1) ∧ w'.cell? ⟨g2, 2, none⟩ = some (.int .i64 (rd_T46 l i).f2) ∧ w'.cell? ⟨g2, 3, none⟩ = some (.int .i64 (rd_T46 l i).f3) ∧ w'.cell? ⟨g2, 4, none⟩ = some (.int .i64 (rd_T46 l i).f4) ∧ w'.cell? ⟨g2, 5, none⟩ = some (.int .i64 (rd_T46 l i).f5)) (ds := []) (bl 33 0) (by kernel_rfl) rfl rfl ⟨(blk_cell (bk H2) 0).trans rfl, (blk_cell (bk H2) 1).trans rfl, (blk_cell (bk H2) 2).trans rfl, (blk_cell (bk H2) 3).trans rfl, (blk_cell (bk H2) 4).trans rfl, (blk_cell (bk H2) 5).trans rfl⟩ (fun hHeld => ?_)
    refine with_tabW rses.t13 rses.b13 (fun HT_ HW_ => ?_)
    refine pu 0 64 (bl 33 1) ?_
    refine pu 1 65 (bl 33 3) ?_
    refine pu 2 66 (bl 33 7) ?_
    refine pu 7 71 (bl 33 135) ?_
    refine pu 12 76 (bl 33 4231) ?_
    refine pu 17 81 (bl 33 135303) ?_
    refine pu 22 86 (bl 33 4329607) ?_
    refine pu 27 91 (bl 33 138547335) ?_
    refine tk 3 67 (bl 33 138547343) ?_ hHeld
    refine tk 8 72 (bl 33 138547599) ?_ hHeld
    refine tk 13 77 (bl 33 138555791) ?_ hHeld
    refine tk 18 82 (bl 33 138817935) ?_ hHeld
    refine tk 23 87 (bl 33 147206543) ?_ hHeld
    refine tk 28 92 (bl 33 415641999) ?_ hHeld
    refine oe 4 68 (bl 33 415642015) (fun K hK => ?_)
    refine gt Tryz.func15 (rdec _ Y0.out _) ?_
    rintro s0 w_ ⟨hs0, hb_⟩
    replace HO := ra (Kd.R_below (rq HO) hb_); replace H1 := bb (bk H1) hb_; replace H2 := bb (bk H2) hb_; replace HD := ra ((dq HD).below hb_); clear hb_
    have h0a := lt9 (a := x.size + 4 + s0.size) (by have := HI.out; have := hs0.out; omega); have h0b := lt9 (a := x.size + 4 + s0.size + 1) (by have := HI.out; have := hs0.out; omega)
    refine hK.out _ _ ⟨(blk_cell H2.out 0).trans rfl, (blk_cell H2.out 1).trans rfl, (blk_cell H2.out 2).trans rfl, (blk_cell H2.out 3).trans rfl, (blk_cell H2.out 4).trans rfl, (blk_cell H2.out 5).trans rfl⟩ (fun hHeld => ?_)
    clear hK K
    refine nm 68 ?_
    refine pu 5 69 (bl 33 415642047) ?_
    refine pu 6 70 (bl 33 415642111) ?_
    refine oe 9 73 (bl 33 415642623) (fun K hK => ?_)
    refine gt Tryz.func15 (rdec _ Y1.out _) ?_
    rintro s1 w_ ⟨hs1, hb_⟩
    replace HO := ra (Kd.R_below (rq HO) hb_); replace H1 := bb (bk H1) hb_; replace H2 := bb (bk H2) hb_; replace HD := ra ((dq HD).below hb_); clear hb_
    have h1a := lt9 (a := x.size + 4 + s0.size + 1 + s1.size) (by have := HI.out; have := hs0.out; have := hs1.out; omega); have h1b := lt9 (a := x.size + 4 + s0.size + 1 + s1.size + 1) (by have := HI.out; have := hs0.out; have := hs1.out; omega)
    refine hK.out _ _ ⟨(blk_cell H2.out 0).trans rfl, (blk_cell H2.out 1).trans rfl, (blk_cell H2.out 2).trans rfl, (blk_cell H2.out 3).trans rfl, (blk_cell H2.out 4).trans rfl, (blk_cell H2.out 5).trans rfl⟩ (fun hHeld => ?_)
    clear hK K
    refine nm 73 ?_
    refine pu 10 74 (bl 33 415643647) ?_
    refine pu 11 75 (bl 33 415645695) ?_
    refine oe 14 78 (bl 33 415662079) (fun K hK => ?_)
    refine gt Tryz.func15 (rdec _ Y2.out _) ?_
    rintro s2 w_ ⟨hs2, hb_⟩
    replace HO := ra (Kd.R_below (rq HO) hb_); replace H1 := bb (bk H1) hb_; replace H2 := bb (bk H2) hb_; replace HD := ra ((dq HD).below hb_); clear hb_
    have h2a := lt9 (a := x.size + 4 + s0.size + 1 + s1.size + 1 + s2.size) (by have := HI.out; have := hs0.out; have := hs1.out; have := hs2.out; omega); have h2b := lt9 (a := x.size + 4 + s0.size + 1 + s1.size + 1 + s2.size + 1) (by have := HI.out; have := hs0.out; have := hs1.out; have := hs2.out; omega)
    refine hK.out _ _ ⟨(blk_cell H2.out 0).trans rfl, (blk_cell H2.out 1).trans rfl, (blk_cell H2.out 2).trans rfl, (blk_cell H2.out 3).trans rfl, (blk_cell H2.out 4).trans rfl, (blk_cell H2.out 5).trans rfl⟩ (fun hHeld => ?_)
    clear hK K
    refine nm 78 ?_
    refine pu 15 79 (bl 33 415694847) ?_
    refine pu 16 80 (bl 33 415760383) ?_
    refine oe 19 83 (bl 33 416284671) (fun K hK => ?_)
    refine gt Tryz.func15 (rdec _ Y3.out _) ?_
    rintro s3 w_ ⟨hs3, hb_⟩
    replace HO := ra (Kd.R_below (rq HO) hb_); replace H1 := bb (bk H1) hb_; replace H2 := bb (bk H2) hb_; replace HD := ra ((dq HD).below hb_); clear hb_
    have h3a := lt9 (a := x.size + 4 + s0.size + 1 + s1.size + 1 + s2.size + 1 + s3.size) (by have := HI.out; have := hs0.out; have := hs1.out; have := hs2.out; have := hs3.out; omega); have h3b := lt9 (a := x.size + 4 + s0.size + 1 + s1.size + 1 + s2.size + 1 + s3.size + 1) (by have := HI.out; have := hs0.out; have := hs1.out; have := hs2.out; have := hs3.out; omega)
    refine hK.out _ _ ⟨(blk_cell H2.out 0).trans rfl, (blk_cell H2.out 1).trans rfl, (blk_cell H2.out 2).trans rfl, (blk_cell H2.out 3).trans rfl, (blk_cell H2.out 4).trans rfl, (blk_cell H2.out 5).trans rfl⟩ (fun hHeld => ?_)
    clear hK K
    refine nm 83 ?_
    refine pu 20 84 (bl 33 417333247) ?_
    refine pu 21 85 (bl 33 419430399) ?_
    refine oe 24 88 (bl 33 436207615) (fun K hK => ?_)
    refine gt Tryz.func15 (rdec _ Y4.out _) ?_
    rintro s4 w_ ⟨hs4, hb_⟩
    replace HO := ra (Kd.R_below (rq HO) hb_); replace H1 := bb (bk H1) hb_; replace H2 := bb (bk H2) hb_; replace HD := ra ((dq HD).below hb_); clear hb_
    have h4a := lt9 (a := x.size + 4 + s0.size + 1 + s1.size + 1 + s2.size + 1 + s3.size + 1 + s4.size) (by have := HI.out; have := hs0.out; have := hs1.out; have := hs2.out; have := hs3.out; have := hs4.out; omega); have h4b := lt9 (a := x.size + 4 + s0.size + 1 + s1.size + 1 + s2.size + 1 + s3.size + 1 + s4.size + 1) (by have := HI.out; have := hs0.out; have := hs1.out; have := hs2.out; have := hs3.out; have := hs4.out; omega)
    refine hK.out _ _ ⟨(blk_cell H2.out 0).trans rfl, (blk_cell H2.out 1).trans rfl, (blk_cell H2.out 2).trans rfl, (blk_cell H2.out 3).trans rfl, (blk_cell H2.out 4).trans rfl, (blk_cell H2.out 5).trans rfl⟩ (fun hHeld => ?_)
    clear hK K
    refine nm 88 ?_
    refine pu 25 89 (bl 33 469762047) ?_
    refine pu 26 90 (bl 33 536870911) ?_
    refine oe 29 93 (bl 33 1073741823) (fun K hK => ?_)
    refine gt Tryz.func15 (rdec _ Y5.out _) ?_
    rintro s5 w_ ⟨hs5, hb_⟩
    replace HO := ra (Kd.R_below (rq HO) hb_); replace H1 := bb (bk H1) hb_; replace H2 := bb (bk H2) hb_; replace HD := ra ((dq HD).below hb_); clear hb_
    have h5a := lt9 (a := x.size + 4 + s0.size + 1 + s1.size + 1 + s2.size + 1 + s3.size + 1 + s4.size + 1 + s5.size) (by have := HI.out; have := hs0.out; have := hs1.out; have := hs2.out; have := hs3.out; have := hs4.out; have := hs5.out; omega); have h5b := lt9 (a := x.size + 4 + s0.size + 1 + s1.size + 1 + s2.size + 1 + s3.size + 1 + s4.size + 1 + s5.size + 1) (by have := HI.out; have := hs0.out; have := hs1.out; have := hs2.out; have := hs3.out; have := hs4.out; have := hs5.out; omega)
    refine hK.out _ _ ⟨(blk_cell H2.out 0).trans rfl, (blk_cell H2.out 1).trans rfl, (blk_cell H2.out 2).trans rfl, (blk_cell H2.out 3).trans rfl, (blk_cell H2.out 4).trans rfl, (blk_cell H2.out 5).trans rfl⟩ (fun hHeld => ?_)
    clear hK K
    refine nm 93 ?_
    refine pu 30 94 (bl 33 2147483647) ?_
    refine pu 31 95 (bl 33 4294967295) ?_
    refine pu 32 4 (bl 33 8589934591) ?_
    refine done_ (done_of HT_.out (by kernel_rfl)) ?_
    try go_wp2
    go_roundg k2
    case measure => have := HI.out; omega
    exact ⟨_, wrap64 (i + 1), rs, rs, ⟨by have := HI.out; have := of_decide_eq_true c2; have h9 : wrap64 (i + 1) = i + 1 := (by unfold wrap64; omega); rw [h9]; have := hs0.out; have := hs1.out; have := hs2.out; have := hs3.out; have := hs4.out; have := hs5.out; have h1 : (⟨#[98, 111, 120, 32]⟩ : ByteArray).size = 4 := rfl; have h2 : (⟨#[32]⟩ : ByteArray).size = 1 := rfl; have h3 : (⟨#[10]⟩ : ByteArray).size = 1 := rfl; simp only [ByteArray.size_append]; omega⟩, ⟨bk H1⟩, ⟨rq HO⟩, ⟨dq HD⟩⟩
  all_goals
    go_wp2_with (first | ((with_reducible refine gd 99 rfl ?_); refine gz (some 99) Tryz.func13 (rpick 60 (dq HD)) ?_; rintro r w_ ⟨Rr, hd⟩; replace HD := dt (dq HD) hd; clear hd H1 HO) | ((with_reducible refine gd 100 rfl ?_); refine gz (some 100) Tryz.func15 (rdec _ (rg Rr) _) ?_; rintro s w_ ⟨hs, hb_⟩; replace HD := ra ((dq HD).below hb_); clear hb_; have h1 := lt9 (a := 4 + s.size) (by have := hs.out; omega); have h2 := lt9 (a := 4 + s.size + 4) (by have := hs.out; omega)) | ((with_reducible refine gd 103 rfl ?_); refine slit 103 (T := 9) (xs := [⟨#[112, 117, 116]⟩, ⟨#[112, 117, 116]⟩, ⟨#[112, 117, 116]⟩, ⟨#[112, 117, 116, 10, 97, 108, 108]⟩, ⟨#[119, 105, 116, 104]⟩, ⟨#[102, 114, 101, 101, 10, 112, 117, 116]⟩, ((⟨#[99, 117, 116, 32]⟩ : ByteArray) ++ s) ++ (⟨#[10, 112, 117, 116]⟩ : ByteArray), ⟨#[100, 114, 111, 112, 32, 98]⟩, ⟨#[109, 101, 101, 116, 32, 97, 49, 32, 98]⟩, ⟨#[109, 101, 101, 116, 32, 98, 32, 99, 45, 99]⟩, ⟨#[119, 104, 97, 116]⟩, ⟨#[98, 111, 120, 32, 49, 32, 49, 32, 49]⟩, ⟨#[112, 117, 116, 32]⟩, ⟨#[116, 117, 98, 101]⟩, ⟨#[99, 117, 116, 32, 48, 49]⟩, ⟨#[98, 111, 120, 32, 49, 32, 49, 32, 49, 32, 49, 32, 53, 32, 52]⟩]) ?_; intro y v w_ hy HS hb_; obtain ⟨As, cs, rfl⟩ := Kd.R_slice HS.out; replace HD := ra ((dq HD).below hb_); clear hb_) | ((with_reducible refine gd 104 rfl ?_); refine gz (some 104) Tryz.func16 (rof (dq HD) (Kd.R_reads' HS.out).2.2 (Kd.R_reads' HS.out).2.1 (dO HD.out HS.out) (by rw [hy.out]; simp)) ?_; rintro s2 w_ ⟨ht, hd⟩; replace HD := dt (dq HD) hd; clear hd; have hw : Aside0 (s2.size ≤ 27) := (by have h := ht.out; rw [hy.out] at h; simp only [List.mem_cons, List.not_mem_nil, or_false] at h; refine ⟨?_⟩; rcases h with rfl | rfl | rfl | rfl | rfl | rfl | rfl | rfl | rfl | rfl | rfl | rfl | rfl | rfl | rfl | rfl <;> first | decide | (simp only [ByteArray.size_append]; have h4 : (⟨#[99, 117, 116, 32]⟩ : ByteArray).size = 4 := rfl; have h5 : (⟨#[10, 112, 117, 116]⟩ : ByteArray).size = 4 := rfl; have := hs.out; omega)); clear ht HS hy; have h3 := lt9 (a := x.size + s2.size) (by have := HI.out; have := hw.out; omega); have h4 := lt9 (a := x.size + s2.size + 1) (by have := HI.out; have := hw.out; omega)))
    go_roundg k1
    case measure => have := HN.out; omega
    exact ⟨_, _, rs, rs, ⟨by have := HN.out; have := of_decide_eq_true c; have := HI.out; have := hw.out; have h3 : (⟨#[10]⟩ : ByteArray).size = 1 := rfl; simp only [ByteArray.size_append]; unfold wrap64; omega⟩, ⟨(dq HD).less⟩⟩
theorem both (text : ByteArray) (hs : text.size ≤ 1048576) : ∃ r : ByteArray, (∀ w : World, Lb.WG w → Calls Tryz.prog 6 #[.string text] w fun e w' => e = .returned (.string r) ∧ Below w.heap.size w w') ∧ ∀ w : World, Lb.WG w → Calls Tryz.prog 5 #[.string text] w fun e w' => e = .returned (.string r) ∧ Below w.heap.size w w' := by
  obtain ⟨r, ⟨k, h1⟩, ⟨m, h2⟩⟩ := session_both text hs
  exact ⟨r, fun w hw => impl_ProbeSession.calls k text r w hw (h1 k (Nat.le_refl _)), fun w hw => spec_ProbeSession.calls m text r w hw (h2 m (Nat.le_refl _))⟩
theorem laws_FnLines.calls (A : Option Addr) (c : Nat) (code : List Int) (w : World) (hr : Kd.C (Kd.int .u8) w A code.length code) (hc : code.length ≤ c) (hWG : Lb.WG w) (hb : ∀ x ∈ code, 0 ≤ x ∧ x ≤ 255) :
    Calls Tryz.prog 4 #[.slice A code.length c] w fun e w' => e = .returned (.bool true) ∧ Below w.heap.size w w' := by
  have HR := ra hr; have HC := ra hc; have HWG := ra hWG; have HB := ra (Below.refl w.heap.size w); have HQ := ra hb
  clear hr hc hWG hb
  rcases dc ((1048576 : Int) < (code.length : Int)) with c0 | c0
  · go_enter Tryz.func4, Tryz.ntmps4
    go_wp2
    go_ret
    exact ⟨re, bq⟩
  go_enter Tryz.func4, Tryz.ntmps4
  go_upto_block 0 with (first | ((with_reducible refine gd 15 rfl ?_); refine gz (some 15) Tryz.func7 (rses (sc HR) HC.out HQ.out) ?_; rintro text w1 ⟨hz, hb⟩; have HZ := ra hz; replace HB := bs hb; clear hb hz))
  go_cut [5] (fun v5 wc => ∃ j : Nat, v5 = .string (text.extract 0 j) ∧ Aside0 (j ≤ text.size) ∧ Aside0 (Below w.heap.size w wc))
  case first =>
    go_wp2
    go_loopg [4, 5, 6] (text.size + 1) (fun kq v4 v5 v6 w' => ∃ (a i : Int), v4 = .int .i64 a ∧ v5 = .string text ∧ v6 = .int .i64 i ∧ Aside0 (0 ≤ i ∧ i ≤ text.size ∧ i + kq = text.size + 1) ∧ Aside0 (Below w.heap.size w w'))
    case atStart => exact ⟨_, 0, rs, rs, rs, ⟨by omega, by omega, by omega⟩, ⟨bq⟩⟩
    obtain ⟨a, i, rfl, rfl, rfl, HI, HB⟩ := hrel
    obtain _ | k1 := gk
    ·exact absurd HI.out (by omega)
    have n9 : wrap64 (i + 1) = i + 1 := by have := HZ.out; have := HI.out; unfold wrap64; omega
    have N9 := ra n9; clear n9
    rcases dc (i < (text.size : Int)) with c1 | c1
    · have e1 := of_decide_eq_true c1
      have p0 : (0 ≤ i) = True := eq_true HI.out.1
      have q0 := ki i (text.size : Int)
      have hx := bt_at text i
      have E2 := ra e1
      clear e1
      cases c2 : (bt text i == 10)
      · go_wp2
        go_roundg k1
        case measure => have := HI.out; omega
        exact ⟨_, _, rfl, rfl, rfl, ⟨by have := HI.out; have := E2.out; rw [N9.out]; omega⟩, ⟨bq⟩⟩
      rcases dc (wrap64 (a - 1) < 0) with c3 | c3
      · have p2 : (0 ≤ wrap64 (i + 1)) = True := eq_true (by rw [N9.out]; have := HI.out; omega)
        have q2 : (wrap64 (i + 1) ≤ (text.size : Int)) = True := eq_true (by rw [N9.out]; have := E2.out; omega)
        go_wp2
        go_meet
        case rel => exact ⟨(wrap64 (i + 1)).toNat, rs, ⟨by rw [N9.out]; have := E2.out; omega⟩, ⟨bq⟩⟩
      go_wp2
      go_roundg k1
      case measure => have := HI.out; omega
      exact ⟨_, _, rfl, rfl, rfl, ⟨by have := HI.out; have := E2.out; rw [N9.out]; omega⟩, ⟨bq⟩⟩
    go_wp2
    go_meet
    case rel => exact ⟨text.size, by simp, ⟨Nat.le_refl _⟩, ⟨bq⟩⟩
  obtain ⟨j, rfl, HJ, HB⟩ := hcut
  obtain ⟨g0, hi0, hs0⟩ := both (text.extract 0 j) (by have := HZ.out; have := HJ.out; rw [ByteArray.size_extract]; omega)
  obtain ⟨g1, hi1, hs1⟩ := both text (by have := HZ.out; omega)
  have p3 : ((0 : Int) ≤ (g0.size : Int)) = True := eq_true (by omega)
  have HI0 := ra hi0; have HS0 := ra hs0; have HI1 := ra hi1; have HS1 := ra hs1
  clear hi0 hs0 hi1 hs1
  by_cases f0 : g1.size < g0.size
  · have f1 := eq_true f0
    have f2 : ((g1.size : Int) < (g0.size : Int)) = True := eq_true (by omega)
    clear f0
    go_wp2_with (first | ((with_reducible refine gd 40 rfl ?_); refine gy (some 40) Tryz.func6 (HI0.out _ (Lb.wg HWG)) ?_; rintro w2 hb; replace HB := bs hb; clear hb) | ((with_reducible refine gd 42 rfl ?_); refine gy (some 42) Tryz.func6 (HI1.out _ (Lb.wg HWG)) ?_; rintro w2 hb; replace HB := bs hb; clear hb) | ((with_reducible refine gd 44 rfl ?_); refine gy (some 44) Tryz.func5 (HS0.out _ (Lb.wg HWG)) ?_; rintro w2 hb; replace HB := bs hb; clear hb) | ((with_reducible refine gd 46 rfl ?_); refine gy (some 46) Tryz.func5 (HS1.out _ (Lb.wg HWG)) ?_; rintro w2 hb; replace HB := bs hb; clear hb))
    go_ret
    exact ⟨re, bq⟩
  have q3 : ((g0.size : Int) ≤ (g1.size : Int)) = True := eq_true (by omega)
  have f1 := eq_false f0
  have f9 : ((g1.size : Int) < (g0.size : Int)) = False := eq_false (by omega)
  clear f0
  by_cases e2 : (g1.extract 0 g0.size).toList = g0.toList
  · have f2 : ((g1.extract 0 g0.size).toList != g0.toList) = false := bne_eq_false_iff_eq.2 e2
    have f3 : ((g1.extract 0 g0.size).toList == g0.toList) = true := beq_iff_eq.2 e2
    clear e2
    go_wp2_with (first | ((with_reducible refine gd 40 rfl ?_); refine gy (some 40) Tryz.func6 (HI0.out _ (Lb.wg HWG)) ?_; rintro w2 hb; replace HB := bs hb; clear hb) | ((with_reducible refine gd 42 rfl ?_); refine gy (some 42) Tryz.func6 (HI1.out _ (Lb.wg HWG)) ?_; rintro w2 hb; replace HB := bs hb; clear hb) | ((with_reducible refine gd 44 rfl ?_); refine gy (some 44) Tryz.func5 (HS0.out _ (Lb.wg HWG)) ?_; rintro w2 hb; replace HB := bs hb; clear hb) | ((with_reducible refine gd 46 rfl ?_); refine gy (some 46) Tryz.func5 (HS1.out _ (Lb.wg HWG)) ?_; rintro w2 hb; replace HB := bs hb; clear hb))
    go_ret
    exact ⟨re, bq⟩
  have f2 : ((g1.extract 0 g0.size).toList != g0.toList) = true := bne_iff_ne.2 e2
  have f3 : ((g1.extract 0 g0.size).toList == g0.toList) = false := beq_eq_false_iff_ne.2 e2
  clear e2
  go_wp2_with (first | ((with_reducible refine gd 40 rfl ?_); refine gy (some 40) Tryz.func6 (HI0.out _ (Lb.wg HWG)) ?_; rintro w2 hb; replace HB := bs hb; clear hb) | ((with_reducible refine gd 42 rfl ?_); refine gy (some 42) Tryz.func6 (HI1.out _ (Lb.wg HWG)) ?_; rintro w2 hb; replace HB := bs hb; clear hb) | ((with_reducible refine gd 44 rfl ?_); refine gy (some 44) Tryz.func5 (HS0.out _ (Lb.wg HWG)) ?_; rintro w2 hb; replace HB := bs hb; clear hb) | ((with_reducible refine gd 46 rfl ?_); refine gy (some 46) Tryz.func5 (HS1.out _ (Lb.wg HWG)) ?_; rintro w2 hb; replace HB := bs hb; clear hb))
  go_ret
  exact ⟨re, bq⟩
end Go.Proofs.YtjelgpmhbaiipaaGreatDoor.PA
end
