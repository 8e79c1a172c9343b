/- laws.FnExactProbeFollow answers true where its parts come out as they must. No condition. -/
import Derived.Test.YtgklmafdbgnohaaGreatFPAd4
import Derived.Test.YtgklmafdbgnohaaGreatFZCx5
import Derived.Test.YtgklmafdbgnohaaGreatFZCy6
import Derived.Test.YtgklmafdbgnohaaGreatFZCm7
import Derived.Test.YtgklmafdbgnohaaGreatFG9
import Derived.Test.YtgklmafdbgnohaaGreatFG14
import Derived.Test.YtgklmafdbgnohaaGreatFG17
namespace Go.Proofs.YtgklmafdbgnohaaGreat.Lf
open Go.RowKit Go.Proofs.YtgklmafdbgnohaaGreatW.PrintWords Go.Proofs.YtgklmafdbgnohaaGreatW.PrintLast Go.Proofs.YtgklmafdbgnohaaGreatW.PrintMore Go.Proofs.YtgklmafdbgnohaaGreat.Z Go.Proofs.YtgklmafdbgnohaaGreat.PA
set_option linter.unusedVariables false
set_option linter.unusedSimpArgs false
theorem ifT {b : Bool} {X : Option Bool} (h : (if b = true then X else some false) = some true) : b = true ∧ X = some true := by
  cases b with
  | true => exact ⟨rfl, by simpa using h⟩
  | false => simp at h
theorem ifF {p : Prop} [Decidable p] {X : Option Bool} (h : (if p then some false else X) = some true) : ¬ p ∧ X = some true := by
  by_cases c : p
  · rw [if_pos c] at h; cases h
  · rw [if_neg c] at h; exact ⟨c, h⟩
theorem ifE {p : Prop} [Decidable p] {X : Option Bool} (h : (if p then X else some false) = some true) : p ∧ X = some true := by
  by_cases c : p
  · rw [if_pos c] at h; exact ⟨c, h⟩
  · rw [if_neg c] at h; cases h
theorem zc3 {w : World} {g : Nat} {t : TypeId} {a b c : Value} (h : Aside0 (w.heap[g]? = some (.cells #[a, b, c] t (0, 0)))) : w.cell? ⟨g, 0, none⟩ = some a ∧ w.cell? ⟨g, 1, none⟩ = some b ∧ w.cell? ⟨g, 2, none⟩ = some c ∧ w.frozen? ⟨g, 0, none⟩ = false ∧ w.frozen? ⟨g, 1, none⟩ = false ∧ w.frozen? ⟨g, 2, none⟩ = false := ⟨blk_cell h.out 0, blk_cell h.out 1, blk_cell h.out 2, blk_frozen h.out 0, blk_frozen h.out 1, blk_frozen h.out 2⟩
abbrev In (a b : Nat) (k : Nat) : Prop := a ≤ k ∧ k < b
section
variable {w W W' : World} {g3 g5 m n g8 g9 q p g11 r g12 : Nat} {C3 C5 : Array Value} {v8 v9 v10 v11 v12 : Value} {I X Y : List S84} {L : List S32} {EB : List S75} {eb : Bool} {es : ByteArray}
theorem S_in {α : Type} {d : Kd α} {e base hi : Nat} {v : Value} {xs : List α} (h : Kd.S d e W base (fun _ => True) v xs) (hl : w.heap.size ≤ base) (hh : W.heap.size ≤ hi) : Kd.S d e W w.heap.size (In base hi) v xs :=
  Kd.S_lower (Kd.S_mono (Kd.S_bound h) fun k hk => ⟨hk.2.1, Nat.lt_of_lt_of_le hk.2.2.1 hh⟩) hl
theorem R_in {α : Type} {d : Kd α} {e base hi : Nat} {v : Value} {xs : List α} (h : Kd.R d e W base (fun _ => True) v xs) (hl : w.heap.size ≤ base) (hh : W.heap.size ≤ hi) : Kd.R d e W w.heap.size (In base hi) v xs :=
  Kd.R_lower (Kd.R_mono (Kd.R_bound h) fun k hk => ⟨hk.2.1, Nat.lt_of_lt_of_le hk.2.2.1 hh⟩) hl
theorem S_pre {α : Type} {d : Kd α} {e base g m : Nat} {v : Value} {xs : List α} (h : Kd.S d e W base (fun k => m ≤ k) v xs) (hg : g = W.heap.size) (hb : Below W.heap.size W W') : Kd.S d e W' base (fun k => m ≤ k ∧ k ≠ g) v xs :=
  Kd.S_below (Kd.S_mono (Kd.S_bound h) fun k hk => ⟨hk.1, by have := hk.2.2.1; omega⟩) hb
theorem S_post {α : Type} {d : Kd α} {e base g m : Nat} {v : Value} {xs : List α} (h : Kd.S d e W' W.heap.size (fun _ => True) v xs) (hg : g < W.heap.size) (hm : m ≤ W.heap.size) (hb : base ≤ W.heap.size) : Kd.S d e W' base (fun k => m ≤ k ∧ k ≠ g) v xs :=
  Kd.S_lower (Kd.S_mono (Kd.S_bound h) fun k hk => ⟨by have := hk.2.1; omega, by have := hk.2.1; omega⟩) hb
structure FP (w : World) (g3 g5 : Nat) (C3 C5 : Array Value) (W : World) : Prop where
  bl : Below w.heap.size w W
  b3 : W.heap[g3]? = some (.cells C3 51 (0, 0))
  b5 : W.heap[g5]? = some (.cells C5 57 (0, 0))
  o3 : w.heap.size ≤ g3
  o5 : w.heap.size ≤ g5
theorem FP.below (h : FP w g3 g5 C3 C5 W) (hb : Below W.heap.size W W') : FP w g3 g5 C3 C5 W' := ⟨below_step h.bl hb, blk_below h.b3 hb, blk_below h.b5 hb, h.o3, h.o5⟩
structure FA (w : World) (g3 g5 : Nat) (C3 C5 : Array Value) (m n g8 : Nat) (v8 : Value) (I : List S84) (W : World) : Prop where
  p : FP w g3 g5 C3 C5 W
  x8 : Kd.S k84 84 W w.heap.size (fun k => m ≤ k ∧ k ≠ g8 ∧ k < n) v8 I
  b8 : W.heap[g8]? = some (.cells #[v8] 28 (0, 0))
  o : w.heap.size ≤ m ∧ m ≤ g8 ∧ g8 < n ∧ g3 < m ∧ g5 < m
theorem FA.below (h : FA w g3 g5 C3 C5 m n g8 v8 I W) (hb : Below W.heap.size W W') : FA w g3 g5 C3 C5 m n g8 v8 I W' := ⟨h.p.below hb, Kd.S_below h.x8 hb, blk_below h.b8 hb, h.o⟩
theorem FA.kept {P : Nat → Prop} (h : FA w g3 g5 C3 C5 m n g8 v8 I W) (hb : Below w.heap.size w W') (hk : Kept W W' P) (hP : ∀ k, k < n → ¬ P k) : FA w g3 g5 C3 C5 m n g8 v8 I W' :=
  have o := h.o
  ⟨⟨hb, blk_kept h.p.b3 hk (hP _ (by omega)), blk_kept h.p.b5 hk (hP _ (by omega)), h.p.o3, h.p.o5⟩, Kd.S_kept h.x8 hk (fun k h1 => hP k h1.2.2), blk_kept h.b8 hk (hP _ (by omega)), h.o⟩
structure FC (w : World) (g3 g5 : Nat) (C3 C5 : Array Value) (m n g8 : Nat) (v8 : Value) (I : List S84) (g9 : Nat) (v9 : Value) (X : List S84) (q p : Nat) (v10 : Value) (L : List S32) (g11 : Nat) (eb : Bool) (es : ByteArray) (v11 : Value) (EB : List S75) (r g12 : Nat) (v12 : Value) (Y : List S84) (W : World) : Prop where
  a : FA w g3 g5 C3 C5 m n g8 v8 I W
  x9 : Kd.S k84 84 W w.heap.size (In n g9) v9 X
  b9 : W.heap[g9]? = some (.cells #[v9] 28 (0, 0))
  x1 : Kd.S k32 32 W w.heap.size (In q p) v10 L
  e11 : Kd.R k75 75 W w.heap.size (In p g11) v11 EB
  b11 : W.heap[g11]? = some (.cells #[.bool eb, .string es, v11] 34 (0, 0))
  y : Kd.S k84 84 W w.heap.size (In r g12) v12 Y
  b12 : W.heap[g12]? = some (.cells #[v12] 28 (0, 0))
  o : n ≤ g9 ∧ g9 < q ∧ q ≤ p ∧ p ≤ g11 ∧ g11 < r ∧ r ≤ g12
theorem FC.below (h : FC w g3 g5 C3 C5 m n g8 v8 I g9 v9 X q p v10 L g11 eb es v11 EB r g12 v12 Y W) (hb : Below W.heap.size W W') : FC w g3 g5 C3 C5 m n g8 v8 I g9 v9 X q p v10 L g11 eb es v11 EB r g12 v12 Y W' :=
  ⟨h.a.below hb, Kd.S_below h.x9 hb, blk_below h.b9 hb, Kd.S_below h.x1 hb, Kd.R_below h.e11 hb, blk_below h.b11 hb, Kd.S_below h.y hb, blk_below h.b12 hb, h.o⟩
structure F1 (w : World) (g3 g5 : Nat) (C3 C5 : Array Value) (m n g8 : Nat) (v8 : Value) (I : List S84) (q p : Nat) (v10 : Value) (L : List S32) (g11 : Nat) (eb : Bool) (es : ByteArray) (v11 : Value) (EB : List S75) (r g12 : Nat) (v12 : Value) (Y : List S84) (W : World) : Prop where
  a : FA w g3 g5 C3 C5 m n g8 v8 I W
  x1 : Kd.S k32 32 W w.heap.size (In q p) v10 L
  e11 : Kd.R k75 75 W w.heap.size (In p g11) v11 EB
  b11 : W.heap[g11]? = some (.cells #[.bool eb, .string es, v11] 34 (0, 0))
  y : Kd.S k84 84 W w.heap.size (In r g12) v12 Y
  b12 : W.heap[g12]? = some (.cells #[v12] 28 (0, 0))
  o : n ≤ q ∧ q ≤ p ∧ p ≤ g11 ∧ g11 < r ∧ r ≤ g12
theorem FC.f1 (h : FC w g3 g5 C3 C5 m n g8 v8 I g9 v9 X q p v10 L g11 eb es v11 EB r g12 v12 Y W) (hb : Below w.heap.size w W') (hk : Kept W W' (In n g9)) : F1 w g3 g5 C3 C5 m n g8 v8 I q p v10 L g11 eb es v11 EB r g12 v12 Y W' :=
  have o := h.o
  ⟨h.a.kept hb hk (fun k h1 h2 => by unfold In at h2; omega), Kd.S_kept h.x1 hk (fun k h1 h2 => by unfold In at h1 h2; omega), Kd.R_kept h.e11 hk (fun k h1 h2 => by unfold In at h1 h2; omega), blk_kept h.b11 hk (fun h2 => by unfold In at h2; omega), Kd.S_kept h.y hk (fun k h1 h2 => by unfold In at h1 h2; omega), blk_kept h.b12 hk (fun h2 => by unfold In at h2; omega), by omega⟩
structure F2 (w : World) (g3 g5 : Nat) (C3 C5 : Array Value) (m n g8 : Nat) (v8 : Value) (I : List S84) (p g11 : Nat) (eb : Bool) (es : ByteArray) (v11 : Value) (EB : List S75) (r g12 : Nat) (v12 : Value) (Y : List S84) (W : World) : Prop where
  a : FA w g3 g5 C3 C5 m n g8 v8 I W
  e11 : Kd.R k75 75 W w.heap.size (In p g11) v11 EB
  b11 : W.heap[g11]? = some (.cells #[.bool eb, .string es, v11] 34 (0, 0))
  y : Kd.S k84 84 W w.heap.size (In r g12) v12 Y
  b12 : W.heap[g12]? = some (.cells #[v12] 28 (0, 0))
  o : n ≤ p ∧ p ≤ g11 ∧ g11 < r ∧ r ≤ g12
theorem F1.f2 (h : F1 w g3 g5 C3 C5 m n g8 v8 I q p v10 L g11 eb es v11 EB r g12 v12 Y W) (hb : Below w.heap.size w W') (hk : Kept W W' (In q p)) : F2 w g3 g5 C3 C5 m n g8 v8 I p g11 eb es v11 EB r g12 v12 Y W' :=
  have o := h.o
  ⟨h.a.kept hb hk (fun k h1 h2 => by unfold In at h2; omega), Kd.R_kept h.e11 hk (fun k h1 h2 => by unfold In at h1 h2; omega), blk_kept h.b11 hk (fun h2 => by unfold In at h2; omega), Kd.S_kept h.y hk (fun k h1 h2 => by unfold In at h1 h2; omega), blk_kept h.b12 hk (fun h2 => by unfold In at h2; omega), by omega⟩
structure FD (w : World) (g3 g5 : Nat) (C3 C5 : Array Value) (m n g8 : Nat) (v8 : Value) (I : List S84) (P : Nat → Prop) (g12 : Nat) (v12 : Value) (Y : List S84) (W : World) : Prop where
  a : FA w g3 g5 C3 C5 m n g8 v8 I W
  y : Kd.S k84 84 W w.heap.size P v12 Y
  b12 : W.heap[g12]? = some (.cells #[v12] 28 (0, 0))
theorem F2.fd (h : F2 w g3 g5 C3 C5 m n g8 v8 I p g11 eb es v11 EB r g12 v12 Y W) (hb : Below w.heap.size w W') (hk : Kept W W' (In p g11)) : FD w g3 g5 C3 C5 m n g8 v8 I (In r g12) g12 v12 Y W' :=
  have o := h.o
  ⟨h.a.kept hb hk (fun k h1 h2 => by unfold In at h2; omega), Kd.S_kept h.y hk (fun k h1 h2 => by unfold In at h1 h2; omega), blk_kept h.b12 hk (fun h2 => by unfold In at h2; omega)⟩
theorem FD.below {P : Nat → Prop} (h : FD w g3 g5 C3 C5 m n g8 v8 I P g12 v12 Y W) (hb : Below W.heap.size W W') : FD w g3 g5 C3 C5 m n g8 v8 I P g12 v12 Y W' := ⟨h.a.below hb, Kd.S_below h.y hb, blk_below h.b12 hb⟩
theorem FD.marked {Q : Nat → Prop} {Y' : List S84} (h : FD w g3 g5 C3 C5 m n g8 v8 I (In r g12) g12 v12 Y W) (hr : n ≤ r) (hb : Below w.heap.size w W') (hk : Kept W W' (In r g12)) (hy : Kd.S k84 84 W' w.heap.size Q v12 Y') : FD w g3 g5 C3 C5 m n g8 v8 I (fun _ => True) g12 v12 Y' W' :=
  ⟨h.a.kept hb hk (fun k h1 h2 => by unfold In at h2; omega), Kd.S_mono hy (fun _ _ => trivial), blk_kept h.b12 hk (fun h2 => by unfold In at h2; omega)⟩
end
end Go.Proofs.YtgklmafdbgnohaaGreat.Lf
namespace Go.Proofs.YtgklmafdbgnohaaGreat.PA
open Go.RowKit Go.Proofs.YtgklmafdbgnohaaGreatW.PrintWords Go.Proofs.YtgklmafdbgnohaaGreatW.PrintLast Go.Proofs.YtgklmafdbgnohaaGreatW.PrintMore Go.Proofs.YtgklmafdbgnohaaGreat.Z Go.Proofs.YtgklmafdbgnohaaGreat.Lf
set_option linter.unusedVariables false
set_option linter.unusedSimpArgs false
def lf.T11 : Bool × List (List Nat × List Nat) := (true, [([], []), ([0], [0]), ([], []), ([2, 1], [2]), ([], []), ([4, 3], [4]), ([1, 3, 5, 5], [1, 3, 5]), ([], []), ([7, 6, 6, 0, 1, 2, 3, 4, 5, 6, 7], [6, 7])])
def lf.B11 : List Nat := [0, 1, 0, 7, 0, 31, 63, 0, 255]
theorem lf.tab11 : rtab .any (opsOf Tryz.f4 11) = lf.T11 := by kernel_rfl
theorem lf.tab38 : rtab .any (opsOf Tryz.f4 38) = lf.T11 := by kernel_rfl
theorem lf.bits11 : waitsOk lf.T11.2 lf.B11 = true := by kernel_rfl
set_option maxHeartbeats 8000000 in
set_option maxRecDepth 100000 in
theorem laws_FnExactProbeFollow.calls (k : Nat) (A0 : Option Addr) (c0 : Nat) (l0 : List (S133)) (AT : Option Addr) (c1 : Nat) (l1 : List (S55)) (a2 : Bool) (s2 : ByteArray) (A2 : Option Addr) (c2 : Nat) (l2 : List (S163)) (w : World) (hr0 : Kd.C k133 w A0 l0.length l0) (hc0 : l0.length ≤ c0) (hr1 : Kd.C k55 w AT l1.length l1) (hc1 : l1.length ≤ c1) (hr2 : Kd.C k163 w A2 l2.length l2) (hc2 : l2.length ≤ c2) (h : laws_FnExactProbeFollow.f k l0 l1 a2 s2 l2 = some true) :
  Calls Tryz.prog 4 #[.agg #[.slice A0 l0.length c0], .slice AT l1.length c1, .agg #[.bool a2, .string s2, .slice A2 l2.length c2]] w fun e w' => e = .returned (.bool true) ∧ Below w.heap.size w w' := by
 have hu0 := Tryz.underlying51; have hu1 := Tryz.underlying57; have hu2 := Tryz.underlying28; have hu3 := Tryz.underlying34
 have HR0 := Aside0.mk hr0; have HC0 := Aside0.mk hc0; have HR1 := Aside0.mk hr1; have HC1 := Aside0.mk hc1; have HR2 := Aside0.mk hr2; have HC2 := Aside0.mk hc2
 clear hr0 hc0 hr1 hc1 hr2 hc2
 have H := h
 unfold laws_FnExactProbeFollow.f at H
 clear h
 obtain ⟨t1, Q1, H1⟩ := bo H
 clear H
 by_cases k1 : t1 < 0
 · have d1 : decide (t1 < 0) = true := decide_eq_true k1
   clear k1 H1
   go_enter Tryz.func4, Tryz.ntmps4
   go_wp2_with (first | ((with_reducible refine gate_dst (N := 3) rfl ?_); refine be 3 #[.slice A0 l0.length c0] 51 ?_; intro g3 hg3 wa hx3 hb; have D3 := ra hb; have B3 := ra hx3; have O3 := ra (Nat.le_of_eq hg3.symm); clear hb hx3 hg3) | ((with_reducible refine gate_dst (N := 5) rfl ?_); refine be 5 #[.bool a2, .string s2, .slice A2 l2.length c2] 57 ?_; intro g5 hg5 wb hx5 hb; have HP := ra (FP.mk (below_step D3.out hb) (blk_below B3.out hb) hx5 O3.out (Nat.le_trans (below_size D3.out) (Nat.le_of_eq hg5.symm))); clear hb hx5 hg5 D3 B3 O3; obtain ⟨z3, _⟩ := zc1 (ra HP.out.b3); obtain ⟨z5a, z5b, z5c, _⟩ := zc3 (ra HP.out.b5)) | ((with_reducible refine gate_dst (N := 19) rfl ?_); refine gl (some 19) Tryz.func20 #[.agg #[.slice A0 l0.length c0], .int .i64 1048576] ?_; (with_reducible refine (laws_szProbeIndex.calls _ _ _ l0 1048576 t1 _ (Kd.C_below HR0.out HP.out.bl) HC0.out Q1.out).mono ?_); rintro e ws1 ⟨rfl, hb⟩; refine ⟨_, rfl, ?_⟩; clear z3 z5a z5b z5c; have HP2 := ra (HP.out.below hb); clear HP; have HP := HP2; clear HP2; obtain ⟨z3, _⟩ := zc1 (ra HP.out.b3); obtain ⟨z5a, z5b, z5c, _⟩ := zc3 (ra HP.out.b5); clear hb))
   go_ret
   exact ⟨re, HP.out.bl⟩
 rw [if_neg k1] at H1
 have H := H1
 have d1 : decide (t1 < 0) = false := decide_eq_false k1
 clear k1 H1
 obtain ⟨t2, Q2, H2⟩ := bo H
 clear H
 by_cases k2 : t2 < 0
 · have d2 : decide (t2 < 0) = true := decide_eq_true k2
   clear k2 H2
   go_enter Tryz.func4, Tryz.ntmps4
   go_wp2_with (first | ((with_reducible refine gate_dst (N := 3) rfl ?_); refine be 3 #[.slice A0 l0.length c0] 51 ?_; intro g3 hg3 wa hx3 hb; have D3 := ra hb; have B3 := ra hx3; have O3 := ra (Nat.le_of_eq hg3.symm); clear hb hx3 hg3) | ((with_reducible refine gate_dst (N := 5) rfl ?_); refine be 5 #[.bool a2, .string s2, .slice A2 l2.length c2] 57 ?_; intro g5 hg5 wb hx5 hb; have HP := ra (FP.mk (below_step D3.out hb) (blk_below B3.out hb) hx5 O3.out (Nat.le_trans (below_size D3.out) (Nat.le_of_eq hg5.symm))); clear hb hx5 hg5 D3 B3 O3; obtain ⟨z3, _⟩ := zc1 (ra HP.out.b3); obtain ⟨z5a, z5b, z5c, _⟩ := zc3 (ra HP.out.b5)) | ((with_reducible refine gate_dst (N := 19) rfl ?_); refine gl (some 19) Tryz.func20 #[.agg #[.slice A0 l0.length c0], .int .i64 1048576] ?_; (with_reducible refine (laws_szProbeIndex.calls _ _ _ l0 1048576 t1 _ (Kd.C_below HR0.out HP.out.bl) HC0.out Q1.out).mono ?_); rintro e ws1 ⟨rfl, hb⟩; refine ⟨_, rfl, ?_⟩; clear z3 z5a z5b z5c; have HP2 := ra (HP.out.below hb); clear HP; have HP := HP2; clear HP2; obtain ⟨z3, _⟩ := zc1 (ra HP.out.b3); obtain ⟨z5a, z5b, z5c, _⟩ := zc3 (ra HP.out.b5); clear hb) | ((with_reducible refine gate_dst (N := 24) rfl ?_); refine gl (some 24) Tryz.func21 #[.slice AT l1.length c1, .int .i64 t1] ?_; (with_reducible refine (laws_szProbeTubeS.calls _ _ _ l1 t1 t2 _ (Kd.C_below HR1.out HP.out.bl) HC1.out Q2.out).mono ?_); rintro e ws2 ⟨rfl, hb⟩; refine ⟨_, rfl, ?_⟩; clear z3 z5a z5b z5c; have HP2 := ra (HP.out.below hb); clear HP; have HP := HP2; clear HP2; obtain ⟨z3, _⟩ := zc1 (ra HP.out.b3); obtain ⟨z5a, z5b, z5c, _⟩ := zc3 (ra HP.out.b5); clear hb))
   go_ret
   exact ⟨re, HP.out.bl⟩
 rw [if_neg k2] at H2
 have H := H2
 have d2 : decide (t2 < 0) = false := decide_eq_false k2
 clear k2 H2
 obtain ⟨t3, Q3, H3⟩ := bo H
 clear H
 by_cases k3 : t3 < 0
 · have d3 : decide (t3 < 0) = true := decide_eq_true k3
   clear k3 H3
   go_enter Tryz.func4, Tryz.ntmps4
   go_wp2_with (first | ((with_reducible refine gate_dst (N := 3) rfl ?_); refine be 3 #[.slice A0 l0.length c0] 51 ?_; intro g3 hg3 wa hx3 hb; have D3 := ra hb; have B3 := ra hx3; have O3 := ra (Nat.le_of_eq hg3.symm); clear hb hx3 hg3) | ((with_reducible refine gate_dst (N := 5) rfl ?_); refine be 5 #[.bool a2, .string s2, .slice A2 l2.length c2] 57 ?_; intro g5 hg5 wb hx5 hb; have HP := ra (FP.mk (below_step D3.out hb) (blk_below B3.out hb) hx5 O3.out (Nat.le_trans (below_size D3.out) (Nat.le_of_eq hg5.symm))); clear hb hx5 hg5 D3 B3 O3; obtain ⟨z3, _⟩ := zc1 (ra HP.out.b3); obtain ⟨z5a, z5b, z5c, _⟩ := zc3 (ra HP.out.b5)) | ((with_reducible refine gate_dst (N := 19) rfl ?_); refine gl (some 19) Tryz.func20 #[.agg #[.slice A0 l0.length c0], .int .i64 1048576] ?_; (with_reducible refine (laws_szProbeIndex.calls _ _ _ l0 1048576 t1 _ (Kd.C_below HR0.out HP.out.bl) HC0.out Q1.out).mono ?_); rintro e ws1 ⟨rfl, hb⟩; refine ⟨_, rfl, ?_⟩; clear z3 z5a z5b z5c; have HP2 := ra (HP.out.below hb); clear HP; have HP := HP2; clear HP2; obtain ⟨z3, _⟩ := zc1 (ra HP.out.b3); obtain ⟨z5a, z5b, z5c, _⟩ := zc3 (ra HP.out.b5); clear hb) | ((with_reducible refine gate_dst (N := 24) rfl ?_); refine gl (some 24) Tryz.func21 #[.slice AT l1.length c1, .int .i64 t1] ?_; (with_reducible refine (laws_szProbeTubeS.calls _ _ _ l1 t1 t2 _ (Kd.C_below HR1.out HP.out.bl) HC1.out Q2.out).mono ?_); rintro e ws2 ⟨rfl, hb⟩; refine ⟨_, rfl, ?_⟩; clear z3 z5a z5b z5c; have HP2 := ra (HP.out.below hb); clear HP; have HP := HP2; clear HP2; obtain ⟨z3, _⟩ := zc1 (ra HP.out.b3); obtain ⟨z5a, z5b, z5c, _⟩ := zc3 (ra HP.out.b5); clear hb) | ((with_reducible refine gate_dst (N := 29) rfl ?_); refine gl (some 29) Tryz.func22 #[.agg #[.bool a2, .string s2, .slice A2 l2.length c2], .int .i64 t2] ?_; (with_reducible refine (laws_szProbeEvent.calls _ _ _ _ l2 t2 t3 _ (Kd.C_below HR2.out HP.out.bl) HC2.out Q3.out).mono ?_); rintro e ws3 ⟨rfl, hb⟩; refine ⟨_, rfl, ?_⟩; clear z3 z5a z5b z5c; have HP2 := ra (HP.out.below hb); clear HP; have HP := HP2; clear HP2; obtain ⟨z3, _⟩ := zc1 (ra HP.out.b3); obtain ⟨z5a, z5b, z5c, _⟩ := zc3 (ra HP.out.b5); clear hb))
   go_ret
   exact ⟨re, HP.out.bl⟩
 rw [if_neg k3] at H3
 have H := H3
 have d3 : decide (t3 < 0) = false := decide_eq_false k3
 clear k3 H3
 obtain ⟨I1, P1, J1⟩ := bo H
 obtain ⟨L1, P2, J2⟩ := bo J1
 obtain ⟨⟨eb1, es1, EB1⟩, P3, J3⟩ := bo J2
 obtain ⟨R, P4, J4⟩ := bo J3
 obtain ⟨X, P5, J5⟩ := bo J4
 obtain ⟨L, P6, J6⟩ := bo J5
 obtain ⟨⟨eb, es, EB⟩, P7, J7⟩ := bo J6
 obtain ⟨Y, P8, J8⟩ := bo J7
 obtain ⟨b1, P9, J9⟩ := bo J8
 obtain ⟨f1, J10⟩ := ifT J9
 obtain ⟨X', P10, J11⟩ := bo J10
 obtain ⟨b2, P11, J12⟩ := bo J11
 obtain ⟨f2, J13⟩ := ifT J12
 obtain ⟨L', P12, J14⟩ := bo J13
 obtain ⟨b3, P13, J15⟩ := bo J14
 obtain ⟨f3, J16⟩ := ifT J15
 obtain ⟨⟨eb2, es2, EB2⟩, P14, J17⟩ := bo J16
 obtain ⟨b4, P15, J18⟩ := bo J17
 obtain ⟨f4, J19⟩ := ifT J18
 obtain ⟨⟨m1, X1⟩, P16, J20⟩ := bo J19
 obtain ⟨⟨m2, L2⟩, P17, J21⟩ := bo J20
 obtain ⟨⟨m3, E3⟩, P18, J22⟩ := bo J21
 have hm3 : ¬ m3 < 0 := fun e => by
   rw [if_pos e] at J22
   cases k with
   | zero => simp [laws_FnExactProbeFollow.j0] at J22
   | succ k => simp [laws_FnExactProbeFollow.j0] at J22
 rw [if_neg hm3] at J22
 obtain ⟨b5, P19, J23⟩ := bo J22
 clear H J1 J2 J3 J4 J5 J6 J7 J8 J9 J10 J11 J12 J13 J14 J15 J16 J17 J18 J19 J20 J21 J22
 cases k with
 | zero => simp [laws_FnExactProbeFollow.j0] at J23
 | succ k =>
 unfold laws_FnExactProbeFollow.j0 at J23
 obtain ⟨f5, J24⟩ := ifF J23
 have f5 : b5 = true := by cases b5 <;> simp at f5 ⊢
 obtain ⟨⟨mk, Y1⟩, P20, J25⟩ := bo J24
 obtain ⟨h1, P21, J26⟩ := bo J25
 obtain ⟨f6, J27⟩ := ifF J26
 obtain ⟨f7, J28⟩ := ifE J27
 obtain ⟨I4, P22, J29⟩ := bo J28
 obtain ⟨L4, P23, J30⟩ := bo J29
 obtain ⟨⟨eb4, es4, EB4⟩, P24, J31⟩ := bo J30
 obtain ⟨Y4, P25, J32⟩ := bo J31
 obtain ⟨b6, P26, J33⟩ := bo J32
 obtain ⟨f8, J34⟩ := ifT J33
 obtain ⟨h2, P27, J35⟩ := bo J34
 obtain ⟨f9, J36⟩ := ifF J35
 obtain ⟨f10, J37⟩ := ifE J36
 clear J23 J24 J25 J26 J27 J28 J29 J30 J31 J32 J33 J34 J35 J36 f9 J37
 have f7 : h1 = mk := f7
 have f10 : h2 = mk := f10
 rw [f7] at P21 f6
 rw [f10] at P27
 rw [f1] at P9
 rw [f2] at P11
 rw [f3] at P13
 rw [f4] at P15
 rw [f5] at P19
 rw [f8] at P26
 clear f1 f2 f3 f4 f5 f7 f8 f10
 have d4 : decide (m3 < 0) = false := decide_eq_false hm3
 have d5 : decide (mk < 0) = false := decide_eq_false f6
 clear hm3 f6
 generalize hkk : k + 1 = kk at *
 clear hkk
 go_enter Tryz.func4, Tryz.ntmps4
 go_wp2_with (first | ((with_reducible refine gate_dst (N := 3) rfl ?_); refine be 3 #[.slice A0 l0.length c0] 51 ?_; intro g3 hg3 wa hx3 hb; have D3 := ra hb; have B3 := ra hx3; have O3 := ra (Nat.le_of_eq hg3.symm); clear hb hx3 hg3) | ((with_reducible refine gate_dst (N := 5) rfl ?_); refine be 5 #[.bool a2, .string s2, .slice A2 l2.length c2] 57 ?_; intro g5 hg5 wb hx5 hb; have HP := ra (FP.mk (below_step D3.out hb) (blk_below B3.out hb) hx5 O3.out (Nat.le_trans (below_size D3.out) (Nat.le_of_eq hg5.symm))); clear hb hx5 hg5 D3 B3 O3; obtain ⟨z3, _⟩ := zc1 (ra HP.out.b3); obtain ⟨z5a, z5b, z5c, _⟩ := zc3 (ra HP.out.b5)) | ((with_reducible refine gate_dst (N := 19) rfl ?_); refine gl (some 19) Tryz.func20 #[.agg #[.slice A0 l0.length c0], .int .i64 1048576] ?_; (with_reducible refine (laws_szProbeIndex.calls _ _ _ l0 1048576 t1 _ (Kd.C_below HR0.out HP.out.bl) HC0.out Q1.out).mono ?_); rintro e ws1 ⟨rfl, hb⟩; refine ⟨_, rfl, ?_⟩; clear z3 z5a z5b z5c; have HP2 := ra (HP.out.below hb); clear HP; have HP := HP2; clear HP2; obtain ⟨z3, _⟩ := zc1 (ra HP.out.b3); obtain ⟨z5a, z5b, z5c, _⟩ := zc3 (ra HP.out.b5); clear hb) | ((with_reducible refine gate_dst (N := 24) rfl ?_); refine gl (some 24) Tryz.func21 #[.slice AT l1.length c1, .int .i64 t1] ?_; (with_reducible refine (laws_szProbeTubeS.calls _ _ _ l1 t1 t2 _ (Kd.C_below HR1.out HP.out.bl) HC1.out Q2.out).mono ?_); rintro e ws2 ⟨rfl, hb⟩; refine ⟨_, rfl, ?_⟩; clear z3 z5a z5b z5c; have HP2 := ra (HP.out.below hb); clear HP; have HP := HP2; clear HP2; obtain ⟨z3, _⟩ := zc1 (ra HP.out.b3); obtain ⟨z5a, z5b, z5c, _⟩ := zc3 (ra HP.out.b5); clear hb) | ((with_reducible refine gate_dst (N := 29) rfl ?_); refine gl (some 29) Tryz.func22 #[.agg #[.bool a2, .string s2, .slice A2 l2.length c2], .int .i64 t2] ?_; (with_reducible refine (laws_szProbeEvent.calls _ _ _ _ l2 t2 t3 _ (Kd.C_below HR2.out HP.out.bl) HC2.out Q3.out).mono ?_); rintro e ws3 ⟨rfl, hb⟩; refine ⟨_, rfl, ?_⟩; clear z3 z5a z5b z5c; have HP2 := ra (HP.out.below hb); clear HP; have HP := HP2; clear HP2; obtain ⟨z3, _⟩ := zc1 (ra HP.out.b3); obtain ⟨z5a, z5b, z5c, _⟩ := zc3 (ra HP.out.b5); clear hb))
 clear z3 z5a z5b z5c
 have HPd : Aside0 (FP w g3 g5 #[.slice A0 l0.length c0] #[.bool a2, .string s2, .slice A2 l2.length c2] ws3.drew) := ⟨HP.out.below (pw_below_drewN (Below.refl _ _) 1)⟩; clear HP
 refine start_ (n := 9) (S := fun w' => w'.cell? ⟨g3, 0, none⟩ = some (.slice A0 l0.length c0) ∧ w'.cell? ⟨g5, 0, none⟩ = some (.bool a2) ∧ w'.cell? ⟨g5, 1, none⟩ = some (.string s2) ∧ w'.cell? ⟨g5, 2, none⟩ = some (.slice A2 l2.length c2)) (ds := []) (bl 9 0) (by kernel_rfl) rfl rfl ⟨(blk_cell HPd.out.b3 0).trans rfl, (blk_cell HPd.out.b5 0).trans rfl, (blk_cell HPd.out.b5 1).trans rfl, (blk_cell HPd.out.b5 2).trans rfl⟩ (fun hHeld => ?_)
 refine with_tabW lf.tab11 lf.bits11 (fun HT_ HW_ => ?_)
 generalize ws3.drew = wd at HPd hHeld ⊢
 have hS : ∀ w', Below wd.heap.size wd w' → w'.cell? ⟨g3, 0, none⟩ = some (.slice A0 l0.length c0) ∧ w'.cell? ⟨g5, 0, none⟩ = some (.bool a2) ∧ w'.cell? ⟨g5, 1, none⟩ = some (.string s2) ∧ w'.cell? ⟨g5, 2, none⟩ = some (.slice A2 l2.length c2) := fun w' hb => by have h := (HPd.out).below hb; exact ⟨(blk_cell h.b3 0).trans rfl, (blk_cell h.b5 0).trans rfl, (blk_cell h.b5 1).trans rfl, (blk_cell h.b5 2).trans rfl⟩
 obtain ⟨m, hm⟩ : ∃ m, m = wd.heap.size := ⟨_, rfl⟩
 have hwm : w.heap.size ≤ m := by rw [hm]; exact below_size (HPd.out).bl
 have hB0 : Below wd.heap.size wd wd := Below.refl _ _
 refine pu 2 34 (bl 9 4) ?_
 refine tk 0 32 (bl 9 5) ?_ hHeld
 refine tk 4 36 (bl 9 21) ?_ hHeld
 refine join_ (σ := Value × Value × Value × Value × Nat) 1 #[true, true, true, true, true, true, true, true, false] (fun s_ => [(33, .agg #[s_.1]), (35, s_.2.1), (37, .agg #[.bool eb1, .string es1, s_.2.2.1]), (38, .agg #[s_.2.2.2.1]), (8, .pointer (some ⟨s_.2.2.2.2, 0, none⟩))]) (fun s_ w' => (w'.cell? ⟨g3, 0, none⟩ = some (.slice A0 l0.length c0) ∧ w'.cell? ⟨g5, 0, none⟩ = some (.bool a2) ∧ w'.cell? ⟨g5, 1, none⟩ = some (.string s2) ∧ w'.cell? ⟨g5, 2, none⟩ = some (.slice A2 l2.length c2)) ∧ Below wd.heap.size wd w' ∧ w'.heap[s_.2.2.2.2]? = some (.cells #[.slice none 0 0] 28 (0, 0)) ∧ m ≤ s_.2.2.2.2 ∧ Kd.S k84 84 w' w.heap.size (fun k => m ≤ k ∧ k ≠ s_.2.2.2.2) s_.2.2.2.1 R) ?_ ?_
 rotate_left
 · intro hCont
   refine two_ (i := 1) (j := 7) (Ni := some 33) (Nj := some 8) #[true, true, true, false, true, false, false, false, false] #[true, false, true, false, true, false, false, true, false] rfl rfl rfl rfl (two_of HT_.out (by kernel_rfl)) (by decide) (by decide) (fun K hK => ?_) (fun K hK => ?_)
   · skip
     refine gs Tryz.func24 #[.agg #[.slice A0 l0.length c0]] ?_
     with_reducible refine (laws_toProbeIndex.calls _ _ _ l0 I1 _ (Kd.C_below HR0.out (((HPd.out).below hB0)).bl) HC0.out P1.out).mono ?_
     rintro e wx1 ⟨v3, rfl, h4, hb⟩
     refine ⟨_, rfl, ?_⟩
     obtain ⟨D5, c6, e_⟩ := Kd.S_slice h4; subst e_
     have hB2 := below_step hB0 hb
     refine hK.out _ _ (hS _ hB2) (fun hHeld => ?_)
     clear hK K
     refine nm 33 ?_
     refine two_ (i := 3) (j := 7) (Ni := some 35) (Nj := some 8) #[true, true, true, true, true, false, false, false, false] #[true, true, true, false, true, false, false, true, false] rfl rfl rfl rfl (two_of HT_.out (by kernel_rfl)) (by decide) (by decide) (fun K hK => ?_) (fun K hK => ?_)
     · skip
       refine gs Tryz.func25 #[.slice AT l1.length c1] ?_
       with_reducible refine (laws_toProbeTubeS.calls _ _ _ l1 L1 _ (Kd.C_below HR1.out (((HPd.out).below hB2)).bl) HC1.out P2.out).mono ?_
       rintro e wx7 ⟨v9, rfl, h10, hb⟩
       refine ⟨_, rfl, ?_⟩
       obtain ⟨D11, c12, e_⟩ := Kd.S_slice h10; subst e_
       have hB8 := below_step hB2 hb
       have h13 := Kd.S_below h4 hb
       refine hK.out _ _ (hS _ hB8) (fun hHeld => ?_)
       clear hK K
       refine nm 35 ?_
       refine two_ (i := 5) (j := 7) (Ni := some 37) (Nj := some 8) #[true, true, true, true, true, true, false, false, false] #[true, true, true, true, true, false, false, true, false] rfl rfl rfl rfl (two_of HT_.out (by kernel_rfl)) (by decide) (by decide) (fun K hK => ?_) (fun K hK => ?_)
       · skip
         refine gs Tryz.func26 #[.agg #[.bool a2, .string s2, .slice A2 l2.length c2]] ?_
         with_reducible refine (laws_toProbeEvent.calls _ _ _ _ _ l2 eb1 es1 EB1 _ (Kd.C_below HR2.out (((HPd.out).below hB8)).bl) HC2.out P3.out).mono ?_
         rintro e wx14 ⟨v16, rfl, h17, hb⟩
         refine ⟨_, rfl, ?_⟩
         obtain ⟨D18, c19, e_⟩ := Kd.R_slice h17; subst e_
         have hB15 := below_step hB8 hb
         have h20 := Kd.S_below h13 hb
         have h21 := Kd.S_below h10 hb
         refine hK.out _ _ (hS _ hB15) (fun hHeld => ?_)
         clear hK K
         refine nm 37 ?_
         refine two_ (i := 6) (j := 7) (Ni := some 38) (Nj := some 8) #[true, true, true, true, true, true, true, false, false] #[true, true, true, true, true, true, false, true, false] rfl rfl rfl rfl (two_of HT_.out (by kernel_rfl)) (by decide) (by decide) (fun K hK => ?_) (fun K hK => ?_)
         · skip
           refine gs Tryz.func23 #[.agg #[(.slice D5 I1.length c6)], (.slice D11 L1.length c12), .agg #[.bool eb1, .string es1, (.slice D18 EB1.length c19)]] ?_
           with_reducible refine (spec_ProbeFollow.calls _ _ _ I1 _ _ L1 eb1 es1 _ _ EB1 R _ (Kd.S_reads' h20).2.2 (Kd.S_reads' h20).2.1 (Kd.S_reads' h21).2.2 (Kd.S_reads' h21).2.1 (Kd.R_reads' h17).2.2 (Kd.R_reads' h17).2.1 P4.out).mono ?_
           rintro e wx22 ⟨v24, rfl, h25, hb⟩
           refine ⟨_, rfl, ?_⟩
           have hB23 := below_step hB15 hb
           have h26 : Kd.S k84 84 _ w.heap.size (fun k => m ≤ k) _ _ := Kd.S_lower (Kd.S_mono (Kd.S_bound h25) fun k hk => Nat.le_trans (by rw [hm]; exact below_size hB15) hk.2.1) (Nat.le_trans hwm (by rw [hm]; exact below_size hB15))
           refine hK.out _ _ (hS _ hB23) (fun hHeld => ?_)
           clear hK K
           refine nm 38 ?_
           refine oe 7 8 (bl 9 255) (fun K hK => ?_)
           refine box_step ?hg (N := 8) ?hd (cs := #[.slice none 0 0]) (t := 28) ?hr ?_; (case hd => rfl); (case hg => rfl); (case hr => first | (go_simp; done) | (go_simp; rfl))
           intro g29 hgg wx27 hg30 hb
           have hB28 := below_step hB23 hb
           have hmg31 : m ≤ g29 := by rw [hm, hgg]; exact below_size hB23
           have h32 := S_pre h26 hgg hb
           refine hK.out _ _ (hS _ hB28) (fun hHeld => ?_)
           clear hK K
           refine nm 8 ?_
           exact norm_ (by first | (simp only [putAll, Act.put, List.setIfInBounds_toArray, List.set_cons_zero, List.set_cons_succ]; done) | (simp only [putAll, Act.put, List.setIfInBounds_toArray, List.set_cons_zero, List.set_cons_succ]; rfl)) (hCont ((.slice D5 I1.length c6), (.slice D11 L1.length c12), (.slice D18 EB1.length c19), v24, g29) _ ⟨hHeld, hB28, hg30, hmg31, h32⟩)
         · skip
           refine box_step ?hg (N := 8) ?hd (cs := #[.slice none 0 0]) (t := 28) ?hr ?_; (case hd => rfl); (case hg => rfl); (case hr => first | (go_simp; done) | (go_simp; rfl))
           intro g35 hgg wx33 hg36 hb
           have hB34 := below_step hB15 hb
           have hmg37 : m ≤ g35 := by rw [hm, hgg]; exact below_size hB15
           have h38 := Kd.S_below h20 hb
           have h39 := Kd.S_below h21 hb
           have h40 := Kd.R_below h17 hb
           refine hK.out _ _ (hS _ hB34) (fun hHeld => ?_)
           clear hK K
           refine nm 8 ?_
           refine oe 6 38 (bl 9 255) (fun K hK => ?_)
           refine gs Tryz.func23 #[.agg #[(.slice D5 I1.length c6)], (.slice D11 L1.length c12), .agg #[.bool eb1, .string es1, (.slice D18 EB1.length c19)]] ?_
           with_reducible refine (spec_ProbeFollow.calls _ _ _ I1 _ _ L1 eb1 es1 _ _ EB1 R _ (Kd.S_reads' h38).2.2 (Kd.S_reads' h38).2.1 (Kd.S_reads' h39).2.2 (Kd.S_reads' h39).2.1 (Kd.R_reads' h40).2.2 (Kd.R_reads' h40).2.1 P4.out).mono ?_
           rintro e wx41 ⟨v43, rfl, h44, hb⟩
           refine ⟨_, rfl, ?_⟩
           have hB42 := below_step hB34 hb
           have hg45 := blk_below hg36 hb
           have h46 := S_post (base := w.heap.size) (m := m) h44 (blk_lt hg36) (by rw [hm]; exact below_size hB34) (Nat.le_trans hwm (by rw [hm]; exact below_size hB34))
           refine hK.out _ _ (hS _ hB42) (fun hHeld => ?_)
           clear hK K
           refine nm 38 ?_
           exact norm_ (by first | (simp only [putAll, Act.put, List.setIfInBounds_toArray, List.set_cons_zero, List.set_cons_succ]; done) | (simp only [putAll, Act.put, List.setIfInBounds_toArray, List.set_cons_zero, List.set_cons_succ]; rfl)) (hCont ((.slice D5 I1.length c6), (.slice D11 L1.length c12), (.slice D18 EB1.length c19), v43, g35) _ ⟨hHeld, hB42, hg45, hmg37, h46⟩)
       · skip
         refine box_step ?hg (N := 8) ?hd (cs := #[.slice none 0 0]) (t := 28) ?hr ?_; (case hd => rfl); (case hg => rfl); (case hr => first | (go_simp; done) | (go_simp; rfl))
         intro g49 hgg wx47 hg50 hb
         have hB48 := below_step hB8 hb
         have hmg51 : m ≤ g49 := by rw [hm, hgg]; exact below_size hB8
         have h52 := Kd.S_below h13 hb
         have h53 := Kd.S_below h10 hb
         refine hK.out _ _ (hS _ hB48) (fun hHeld => ?_)
         clear hK K
         refine nm 8 ?_
         refine oe 5 37 (bl 9 191) (fun K hK => ?_)
         refine gs Tryz.func26 #[.agg #[.bool a2, .string s2, .slice A2 l2.length c2]] ?_
         with_reducible refine (laws_toProbeEvent.calls _ _ _ _ _ l2 eb1 es1 EB1 _ (Kd.C_below HR2.out (((HPd.out).below hB48)).bl) HC2.out P3.out).mono ?_
         rintro e wx54 ⟨v56, rfl, h57, hb⟩
         refine ⟨_, rfl, ?_⟩
         obtain ⟨D58, c59, e_⟩ := Kd.R_slice h57; subst e_
         have hB55 := below_step hB48 hb
         have h60 := Kd.S_below h52 hb
         have h61 := Kd.S_below h53 hb
         have hg62 := blk_below hg50 hb
         refine hK.out _ _ (hS _ hB55) (fun hHeld => ?_)
         clear hK K
         refine nm 37 ?_
         refine oe 6 38 (bl 9 255) (fun K hK => ?_)
         refine gs Tryz.func23 #[.agg #[(.slice D5 I1.length c6)], (.slice D11 L1.length c12), .agg #[.bool eb1, .string es1, (.slice D58 EB1.length c59)]] ?_
         with_reducible refine (spec_ProbeFollow.calls _ _ _ I1 _ _ L1 eb1 es1 _ _ EB1 R _ (Kd.S_reads' h60).2.2 (Kd.S_reads' h60).2.1 (Kd.S_reads' h61).2.2 (Kd.S_reads' h61).2.1 (Kd.R_reads' h57).2.2 (Kd.R_reads' h57).2.1 P4.out).mono ?_
         rintro e wx63 ⟨v65, rfl, h66, hb⟩
         refine ⟨_, rfl, ?_⟩
         have hB64 := below_step hB55 hb
         have hg67 := blk_below hg62 hb
         have h68 := S_post (base := w.heap.size) (m := m) h66 (blk_lt hg62) (by rw [hm]; exact below_size hB55) (Nat.le_trans hwm (by rw [hm]; exact below_size hB55))
         refine hK.out _ _ (hS _ hB64) (fun hHeld => ?_)
         clear hK K
         refine nm 38 ?_
         exact norm_ (by first | (simp only [putAll, Act.put, List.setIfInBounds_toArray, List.set_cons_zero, List.set_cons_succ]; done) | (simp only [putAll, Act.put, List.setIfInBounds_toArray, List.set_cons_zero, List.set_cons_succ]; rfl)) (hCont ((.slice D5 I1.length c6), (.slice D11 L1.length c12), (.slice D58 EB1.length c59), v65, g49) _ ⟨hHeld, hB64, hg67, hmg51, h68⟩)
     · skip
       refine box_step ?hg (N := 8) ?hd (cs := #[.slice none 0 0]) (t := 28) ?hr ?_; (case hd => rfl); (case hg => rfl); (case hr => first | (go_simp; done) | (go_simp; rfl))
       intro g71 hgg wx69 hg72 hb
       have hB70 := below_step hB2 hb
       have hmg73 : m ≤ g71 := by rw [hm, hgg]; exact below_size hB2
       have h74 := Kd.S_below h4 hb
       refine hK.out _ _ (hS _ hB70) (fun hHeld => ?_)
       clear hK K
       refine nm 8 ?_
       refine oe 3 35 (bl 9 159) (fun K hK => ?_)
       refine gs Tryz.func25 #[.slice AT l1.length c1] ?_
       with_reducible refine (laws_toProbeTubeS.calls _ _ _ l1 L1 _ (Kd.C_below HR1.out (((HPd.out).below hB70)).bl) HC1.out P2.out).mono ?_
       rintro e wx75 ⟨v77, rfl, h78, hb⟩
       refine ⟨_, rfl, ?_⟩
       obtain ⟨D79, c80, e_⟩ := Kd.S_slice h78; subst e_
       have hB76 := below_step hB70 hb
       have h81 := Kd.S_below h74 hb
       have hg82 := blk_below hg72 hb
       refine hK.out _ _ (hS _ hB76) (fun hHeld => ?_)
       clear hK K
       refine nm 35 ?_
       refine oe 5 37 (bl 9 191) (fun K hK => ?_)
       refine gs Tryz.func26 #[.agg #[.bool a2, .string s2, .slice A2 l2.length c2]] ?_
       with_reducible refine (laws_toProbeEvent.calls _ _ _ _ _ l2 eb1 es1 EB1 _ (Kd.C_below HR2.out (((HPd.out).below hB76)).bl) HC2.out P3.out).mono ?_
       rintro e wx83 ⟨v85, rfl, h86, hb⟩
       refine ⟨_, rfl, ?_⟩
       obtain ⟨D87, c88, e_⟩ := Kd.R_slice h86; subst e_
       have hB84 := below_step hB76 hb
       have h89 := Kd.S_below h81 hb
       have h90 := Kd.S_below h78 hb
       have hg91 := blk_below hg82 hb
       refine hK.out _ _ (hS _ hB84) (fun hHeld => ?_)
       clear hK K
       refine nm 37 ?_
       refine oe 6 38 (bl 9 255) (fun K hK => ?_)
       refine gs Tryz.func23 #[.agg #[(.slice D5 I1.length c6)], (.slice D79 L1.length c80), .agg #[.bool eb1, .string es1, (.slice D87 EB1.length c88)]] ?_
       with_reducible refine (spec_ProbeFollow.calls _ _ _ I1 _ _ L1 eb1 es1 _ _ EB1 R _ (Kd.S_reads' h89).2.2 (Kd.S_reads' h89).2.1 (Kd.S_reads' h90).2.2 (Kd.S_reads' h90).2.1 (Kd.R_reads' h86).2.2 (Kd.R_reads' h86).2.1 P4.out).mono ?_
       rintro e wx92 ⟨v94, rfl, h95, hb⟩
       refine ⟨_, rfl, ?_⟩
       have hB93 := below_step hB84 hb
       have hg96 := blk_below hg91 hb
       have h97 := S_post (base := w.heap.size) (m := m) h95 (blk_lt hg91) (by rw [hm]; exact below_size hB84) (Nat.le_trans hwm (by rw [hm]; exact below_size hB84))
       refine hK.out _ _ (hS _ hB93) (fun hHeld => ?_)
       clear hK K
       refine nm 38 ?_
       exact norm_ (by first | (simp only [putAll, Act.put, List.setIfInBounds_toArray, List.set_cons_zero, List.set_cons_succ]; done) | (simp only [putAll, Act.put, List.setIfInBounds_toArray, List.set_cons_zero, List.set_cons_succ]; rfl)) (hCont ((.slice D5 I1.length c6), (.slice D79 L1.length c80), (.slice D87 EB1.length c88), v94, g71) _ ⟨hHeld, hB93, hg96, hmg73, h97⟩)
   · skip
     refine box_step ?hg (N := 8) ?hd (cs := #[.slice none 0 0]) (t := 28) ?hr ?_; (case hd => rfl); (case hg => rfl); (case hr => first | (go_simp; done) | (go_simp; rfl))
     intro g100 hgg wx98 hg101 hb
     have hB99 := below_step hB0 hb
     have hmg102 : m ≤ g100 := by rw [hm, hgg]; exact below_size hB0
     refine hK.out _ _ (hS _ hB99) (fun hHeld => ?_)
     clear hK K
     refine nm 8 ?_
     refine oe 1 33 (bl 9 151) (fun K hK => ?_)
     refine gs Tryz.func24 #[.agg #[.slice A0 l0.length c0]] ?_
     with_reducible refine (laws_toProbeIndex.calls _ _ _ l0 I1 _ (Kd.C_below HR0.out (((HPd.out).below hB99)).bl) HC0.out P1.out).mono ?_
     rintro e wx103 ⟨v105, rfl, h106, hb⟩
     refine ⟨_, rfl, ?_⟩
     obtain ⟨D107, c108, e_⟩ := Kd.S_slice h106; subst e_
     have hB104 := below_step hB99 hb
     have hg109 := blk_below hg101 hb
     refine hK.out _ _ (hS _ hB104) (fun hHeld => ?_)
     clear hK K
     refine nm 33 ?_
     refine oe 3 35 (bl 9 159) (fun K hK => ?_)
     refine gs Tryz.func25 #[.slice AT l1.length c1] ?_
     with_reducible refine (laws_toProbeTubeS.calls _ _ _ l1 L1 _ (Kd.C_below HR1.out (((HPd.out).below hB104)).bl) HC1.out P2.out).mono ?_
     rintro e wx110 ⟨v112, rfl, h113, hb⟩
     refine ⟨_, rfl, ?_⟩
     obtain ⟨D114, c115, e_⟩ := Kd.S_slice h113; subst e_
     have hB111 := below_step hB104 hb
     have h116 := Kd.S_below h106 hb
     have hg117 := blk_below hg109 hb
     refine hK.out _ _ (hS _ hB111) (fun hHeld => ?_)
     clear hK K
     refine nm 35 ?_
     refine oe 5 37 (bl 9 191) (fun K hK => ?_)
     refine gs Tryz.func26 #[.agg #[.bool a2, .string s2, .slice A2 l2.length c2]] ?_
     with_reducible refine (laws_toProbeEvent.calls _ _ _ _ _ l2 eb1 es1 EB1 _ (Kd.C_below HR2.out (((HPd.out).below hB111)).bl) HC2.out P3.out).mono ?_
     rintro e wx118 ⟨v120, rfl, h121, hb⟩
     refine ⟨_, rfl, ?_⟩
     obtain ⟨D122, c123, e_⟩ := Kd.R_slice h121; subst e_
     have hB119 := below_step hB111 hb
     have h124 := Kd.S_below h116 hb
     have h125 := Kd.S_below h113 hb
     have hg126 := blk_below hg117 hb
     refine hK.out _ _ (hS _ hB119) (fun hHeld => ?_)
     clear hK K
     refine nm 37 ?_
     refine oe 6 38 (bl 9 255) (fun K hK => ?_)
     refine gs Tryz.func23 #[.agg #[(.slice D107 I1.length c108)], (.slice D114 L1.length c115), .agg #[.bool eb1, .string es1, (.slice D122 EB1.length c123)]] ?_
     with_reducible refine (spec_ProbeFollow.calls _ _ _ I1 _ _ L1 eb1 es1 _ _ EB1 R _ (Kd.S_reads' h124).2.2 (Kd.S_reads' h124).2.1 (Kd.S_reads' h125).2.2 (Kd.S_reads' h125).2.1 (Kd.R_reads' h121).2.2 (Kd.R_reads' h121).2.1 P4.out).mono ?_
     rintro e wx127 ⟨v129, rfl, h130, hb⟩
     refine ⟨_, rfl, ?_⟩
     have hB128 := below_step hB119 hb
     have hg131 := blk_below hg126 hb
     have h132 := S_post (base := w.heap.size) (m := m) h130 (blk_lt hg126) (by rw [hm]; exact below_size hB119) (Nat.le_trans hwm (by rw [hm]; exact below_size hB119))
     refine hK.out _ _ (hS _ hB128) (fun hHeld => ?_)
     clear hK K
     refine nm 38 ?_
     exact norm_ (by first | (simp only [putAll, Act.put, List.setIfInBounds_toArray, List.set_cons_zero, List.set_cons_succ]; done) | (simp only [putAll, Act.put, List.setIfInBounds_toArray, List.set_cons_zero, List.set_cons_succ]; rfl)) (hCont ((.slice D107 I1.length c108), (.slice D114 L1.length c115), (.slice D122 EB1.length c123), v129, g100) _ ⟨hHeld, hB128, hg131, hmg102, h132⟩)
 rintro ⟨v1_, v3_, v5_, v6_, g8⟩ wN ⟨hHeld, hBN, hgN, hmg, h6⟩
 obtain ⟨D6, c6, e_⟩ := Kd.S_slice h6; have e_ : v6_ = .slice D6 R.length c6 := e_; subst e_
 refine norm_ (a' := ?_) ?_ ?_
 rotate_left
 · simp only [putAll, Act.put, List.setIfInBounds_toArray, List.set_cons_zero, List.set_cons_succ]
   rfl
 refine one_ (i := 8) (N := none) #[true, true, true, true, true, true, true, true, true] rfl rfl (one_of HT_.out (by kernel_rfl)) (by decide) (fun K hK => ?_)
 have hs_ : wN.cell? ⟨g8, 0, none⟩ = some (.slice none 0 0) := (blk_cell hgN 0).trans rfl
 have hfs_ := blk_frozen hgN 0
 refine skip_ (w1 := ?_) (by rfl) rfl ?_ ?_
 rotate_left
 · go_simp
   rfl
 have hBM : Below wd.heap.size wd (wN.setCell ⟨g8, 0, none⟩ (.slice D6 R.length c6)) := below_set hBN (by rw [← hm]; exact hmg)
 refine hK.out _ _ (hS _ hBM) (fun hHeld => ?_)
 clear hK K
 refine done_ (done_of HT_.out (by kernel_rfl)) ?_
 have hx6 := Kd.S_far (p := ⟨g8, 0, none⟩) h6 (fun _ hk => hk.2) (.slice D6 R.length c6)
 have hb6 : Aside0 ((wN.setCell ⟨g8, 0, none⟩ (.slice D6 R.length c6)).heap[g8]? = some (.cells #[.slice D6 R.length c6] 28 (0, 0))) := ⟨Z.bp (ra hgN)⟩
 have HA : Aside0 (FA w g3 g5 #[.slice A0 l0.length c0] #[.bool a2, .string s2, .slice A2 l2.length c2] m (wN.setCell ⟨g8, 0, none⟩ (.slice D6 R.length c6)).heap.size g8 (.slice D6 R.length c6) R (wN.setCell ⟨g8, 0, none⟩ (.slice D6 R.length c6))) := by
  exact ⟨⟨HPd.out.below hBM, Kd.S_mono (Kd.S_bound hx6) (fun k hk => ⟨hk.1.1, hk.1.2, hk.2.2.1⟩), hb6.out, hwm, hmg, blk_lt hb6.out, by rw [hm]; exact blk_lt HPd.out.b3, by rw [hm]; exact blk_lt HPd.out.b5⟩⟩
 generalize wN.setCell ⟨g8, 0, none⟩ (.slice D6 R.length c6) = we at HA ⊢
 obtain ⟨n, hn⟩ : ∃ n, n = we.heap.size := ⟨_, rfl⟩
 rw [← hn] at HA
 have HN := ra hn
 clear hS hm hwm hB0 hHeld hBN hgN hmg h6 hBM hx6 hb6 HT_ HW_ HPd hn hs_ hfs_
 obtain ⟨z3, _⟩ := zc1 (ra HA.out.p.b3); obtain ⟨z5a, z5b, z5c, _⟩ := zc3 (ra HA.out.p.b5)
 go_upto_region 13 with (first
   | ((with_reducible refine gate_dst (N := 40) rfl ?_); refine gl (some 40) Tryz.func24 #[.agg #[.slice A0 l0.length c0]] ?_; (with_reducible refine (laws_toProbeIndex.calls _ _ _ l0 X _ (Kd.C_below HR0.out HA.out.p.bl) HC0.out P5.out).mono ?_); rintro e wf ⟨v9_, rfl, ho, hb⟩; refine ⟨_, rfl, ?_⟩; clear z3 z5a z5b z5c ; have H2 := ra (HA.out.below hb); clear HA; have HA := H2; clear H2; obtain ⟨z3, _⟩ := zc1 (ra HA.out.p.b3); obtain ⟨z5a, z5b, z5c, _⟩ := zc3 (ra HA.out.p.b5); obtain ⟨D9, c9, e_⟩ := Kd.S_slice ho; subst e_; have X9 := ra ho; have HS := ra hb.size; clear hb ho)
   | ((with_reducible refine gate_dst (N := 9) rfl ?_); refine be 9 #[.slice none 0 0] 28 ?_; intro g9 hg wg9 hx hb; have DD := ra hb; have BB := ra hx; have GG := ra (Nat.le_of_eq hg.symm); clear hb hx hg; obtain ⟨zz, zzf⟩ := zc1 BB))
 have DS : Below wf.heap.size wf (wg9.setCell ⟨g9, 0, none⟩ (.slice D9 X.length c9)) := below_set DD.out GG.out
 have HA2 := ra (HA.out.below DS)
 have T9 : Aside0 (Kd.S k84 84 (wg9.setCell ⟨g9, 0, none⟩ (.slice D9 X.length c9)) w.heap.size (In n g9) (.slice D9 X.length c9) X) := ⟨Kd.S_below (by rw [HN.out]; exact S_in X9.out (by have := HA.out.o; have := HN.out; omega) GG.out) DS⟩
 have B9 : Aside0 ((wg9.setCell ⟨g9, 0, none⟩ (.slice D9 X.length c9)).heap[g9]? = some (.cells #[.slice D9 X.length c9] 28 (0, 0))) := ⟨Z.bp BB⟩
 have O9 : Aside0 (n ≤ g9) := ⟨by have h1 := GG.out; have h2 := HS.out; have h3 := HN.out; omega⟩
 generalize wg9.setCell ⟨g9, 0, none⟩ (.slice D9 X.length c9) = wh at HA2 T9 B9 ⊢
 clear HA DD BB GG DS X9 zz zzf HN HS z3 z5a z5b z5c; have HA := HA2; clear HA2
 obtain ⟨q, hq⟩ : ∃ q, q = wh.heap.size := ⟨_, rfl⟩
 have HQ := ra hq; have OQ : Aside0 (g9 < q) := ⟨by rw [hq]; exact blk_lt B9.out⟩; clear hq
 go_upto_region 14 with (first
   | ((with_reducible refine gate_dst (N := 42) rfl ?_); refine gl (some 42) Tryz.func25 #[.slice AT l1.length c1] ?_; (with_reducible refine (laws_toProbeTubeS.calls _ _ _ l1 L _ (Kd.C_below HR1.out HA.out.p.bl) HC1.out P6.out).mono ?_); rintro e wi ⟨v10_, rfl, ho, hb⟩; refine ⟨_, rfl, ?_⟩; have H2 := ra (HA.out.below hb); obtain ⟨D10, c10, e_⟩ := Kd.S_slice ho; subst e_; have T10 : Aside0 (Kd.S k32 32 wi w.heap.size (In q wi.heap.size) (.slice D10 L.length c10) L) := ⟨by rw [HQ.out]; exact S_in ho (below_size HA.out.p.bl) (Nat.le_refl _)⟩; have OP : Aside0 (q ≤ wi.heap.size) := ⟨by rw [HQ.out]; exact hb.size⟩; clear HA HQ; have HA := H2; clear H2; have T9b := ra (Kd.S_below T9.out hb); clear T9; have T9 := T9b; clear T9b; have B9b := ra (blk_below B9.out hb); clear B9; have B9 := B9b; clear B9b; clear hb ho))
 obtain ⟨p, hp⟩ : ∃ p, p = wi.heap.size := ⟨_, rfl⟩
 rw [← hp] at T10 OP
 have HP := ra hp; clear hp
 obtain ⟨z3, _⟩ := zc1 (ra HA.out.p.b3); obtain ⟨z5a, z5b, z5c, _⟩ := zc3 (ra HA.out.p.b5)
 go_upto_region 15 with (first
   | ((with_reducible refine gate_dst (N := 44) rfl ?_); refine gl (some 44) Tryz.func26 #[.agg #[.bool a2, .string s2, .slice A2 l2.length c2]] ?_; (with_reducible refine (laws_toProbeEvent.calls _ _ _ _ _ l2 eb es EB _ (Kd.C_below HR2.out HA.out.p.bl) HC2.out P7.out).mono ?_); rintro e wj ⟨v11_, rfl, ho, hb⟩; refine ⟨_, rfl, ?_⟩; have E11 : Aside0 (Kd.R k75 75 wj w.heap.size (In p wj.heap.size) v11_ EB) := ⟨by rw [HP.out]; exact R_in ho (below_size HA.out.p.bl) (Nat.le_refl _)⟩; clear z3 z5a z5b z5c ; have H2 := ra (HA.out.below hb); clear HA; have HA := H2; clear H2; obtain ⟨z3, _⟩ := zc1 (ra HA.out.p.b3); obtain ⟨z5a, z5b, z5c, _⟩ := zc3 (ra HA.out.p.b5); obtain ⟨D11, c11, e_⟩ := Kd.R_slice ho; subst e_; have HS := ra hb.size; have T9b := ra (Kd.S_below T9.out hb); clear T9; have T9 := T9b; clear T9b; have B9b := ra (blk_below B9.out hb); clear B9; have B9 := B9b; clear B9b; have T10b := ra (Kd.S_below T10.out hb); clear T10; have T10 := T10b; clear T10b; clear hb ho)
   | ((with_reducible refine gate_dst (N := 11) rfl ?_); refine be 11 #[.bool false, .string ⟨#[]⟩, .slice none 0 0] 34 ?_; intro g11 hg wg11 hx hb; have DD := ra hb; have BB := ra hx; have GG := ra (Nat.le_of_eq hg.symm); clear hb hx hg; obtain ⟨zza, zzb, zzc, zzf, zzg, zzh⟩ := zc3 BB))
 have DS : Below wj.heap.size wj (((wg11.setCell ⟨g11, 0, none⟩ (.bool eb)).setCell ⟨g11, 1, none⟩ (.string es)).setCell ⟨g11, 2, none⟩ (.slice D11 EB.length c11)) := below_set (below_set (below_set DD.out GG.out) GG.out) GG.out
 have HA2 := ra (HA.out.below DS); have T9b := ra (Kd.S_below T9.out DS); have B9b := ra (blk_below B9.out DS); have T10b := ra (Kd.S_below T10.out DS)
 have E11b : Aside0 (Kd.R k75 75 (((wg11.setCell ⟨g11, 0, none⟩ (.bool eb)).setCell ⟨g11, 1, none⟩ (.string es)).setCell ⟨g11, 2, none⟩ (.slice D11 EB.length c11)) w.heap.size (In p g11) (.slice D11 EB.length c11) EB) := ⟨Kd.R_below (Kd.R_mono E11.out fun k hk => ⟨hk.1, Nat.lt_of_lt_of_le hk.2 GG.out⟩) DS⟩
 have B11 : Aside0 ((((wg11.setCell ⟨g11, 0, none⟩ (.bool eb)).setCell ⟨g11, 1, none⟩ (.string es)).setCell ⟨g11, 2, none⟩ (.slice D11 EB.length c11)).heap[g11]? = some (.cells #[.bool eb, .string es, .slice D11 EB.length c11] 34 (0, 0))) := ⟨Z.bp BB⟩
 have O11 : Aside0 (p ≤ g11) := ⟨by have h1 := GG.out; have h2 := HS.out; have h3 := HP.out; omega⟩
 generalize ((wg11.setCell ⟨g11, 0, none⟩ (.bool eb)).setCell ⟨g11, 1, none⟩ (.string es)).setCell ⟨g11, 2, none⟩ (.slice D11 EB.length c11) = wk at HA2 T9b B9b T10b E11b B11 ⊢
 clear HA T9 B9 T10 E11 DD BB GG DS HS HP z3 z5a z5b z5c zza zzb zzc zzf zzg zzh
 have HA := HA2; have T9 := T9b; have B9 := B9b; have T10 := T10b; have E11 := E11b; clear HA2 T9b B9b T10b E11b
 obtain ⟨r, hr⟩ : ∃ r, r = wk.heap.size := ⟨_, rfl⟩
 have HR := ra hr; have OR : Aside0 (g11 < r) := ⟨by rw [hr]; exact blk_lt B11.out⟩; clear hr
 obtain ⟨z9, _⟩ := zc1 B9; obtain ⟨z11a, z11b, z11c, _⟩ := zc3 B11
 go_upto_region 16 with (first
   | ((with_reducible refine gate_dst (N := 48) rfl ?_); refine gl (some 48) Tryz.func10 #[.agg #[.slice D9 X.length c9], .slice D10 L.length c10, .agg #[.bool eb, .string es, .slice D11 EB.length c11]] ?_; (with_reducible refine (impl_ProbeFollow.calls _ _ _ X _ _ L eb es _ _ EB Y _ (Kd.S_reads' T9.out).2.2 (Kd.S_reads' T9.out).2.1 (Kd.S_reads' T10.out).2.2 (Kd.S_reads' T10.out).2.1 (Kd.R_reads' E11.out).2.2 (Kd.R_reads' E11.out).2.1 P8.out).mono ?_); rintro e wl ⟨v12_, rfl, ho, hb⟩; refine ⟨_, rfl, ?_⟩; have H2 := ra (HA.out.below hb); clear HA; have HA := H2; clear H2; obtain ⟨D12, c12, e_⟩ := Kd.S_slice ho; subst e_; have X12 := ra ho; have HS := ra hb.size; have T9b := ra (Kd.S_below T9.out hb); clear T9; have T9 := T9b; clear T9b; have B9b := ra (blk_below B9.out hb); clear B9; have B9 := B9b; clear B9b; have T10b := ra (Kd.S_below T10.out hb); clear T10; have T10 := T10b; clear T10b; have E11b := ra (Kd.R_below E11.out hb); clear E11; have E11 := E11b; clear E11b; have B11b := ra (blk_below B11.out hb); clear B11; have B11 := B11b; clear B11b; clear hb ho z9 z11a z11b z11c)
   | ((with_reducible refine gate_dst (N := 12) rfl ?_); refine be 12 #[.slice none 0 0] 28 ?_; intro g12 hg wg12 hx hb; have DD := ra hb; have BB := ra hx; have GG := ra (Nat.le_of_eq hg.symm); clear hb hx hg; obtain ⟨zz, zzf⟩ := zc1 BB))
 have DS : Below wl.heap.size wl (wg12.setCell ⟨g12, 0, none⟩ (.slice D12 Y.length c12)) := below_set DD.out GG.out
 have HC : Aside0 (FC w g3 g5 #[.slice A0 l0.length c0] #[.bool a2, .string s2, .slice A2 l2.length c2] m n g8 (.slice D6 R.length c6) R g9 (.slice D9 X.length c9) X q p (.slice D10 L.length c10) L g11 eb es (.slice D11 EB.length c11) EB r g12 (.slice D12 Y.length c12) Y (wg12.setCell ⟨g12, 0, none⟩ (.slice D12 Y.length c12))) := ⟨⟨HA.out.below DS, Kd.S_below T9.out DS, blk_below B9.out DS, Kd.S_below T10.out DS, Kd.R_below E11.out DS, blk_below B11.out DS, Kd.S_below (by rw [HR.out]; exact S_in X12.out (by have := HA.out.o; have h1 := O9.out; have h2 := OQ.out; have h3 := OP.out; have h4 := O11.out; have h5 := OR.out; have h6 := HR.out; omega) GG.out) DS, Z.bp BB, O9.out, OQ.out, OP.out, O11.out, OR.out, by have h1 := GG.out; have h2 := HS.out; have h3 := HR.out; omega⟩⟩
 generalize wg12.setCell ⟨g12, 0, none⟩ (.slice D12 Y.length c12) = wm at HC ⊢
 clear HA T9 B9 T10 E11 B11 X12 DD BB GG DS HS HR O9 OQ OP O11 OR zz zzf
 obtain ⟨z8, _⟩ := zc1 (ra HC.out.a.b8); obtain ⟨z12, _⟩ := zc1 (ra HC.out.b12)
 go_wp2_with (first
   | ((with_reducible refine gate_dst (N := 51) rfl ?_); refine gl (some 51) Tryz.func27 #[.agg #[.slice D12 Y.length c12], .agg #[.slice D6 R.length c6]] ?_; (with_reducible refine (laws_eqProbeIndex.calls _ _ _ Y _ _ R true _ (Kd.S_reads' HC.out.y).2.2 (Kd.S_reads' HC.out.y).2.1 (Kd.S_reads' HC.out.a.x8).2.2 (Kd.S_reads' HC.out.a.x8).2.1 P9.out).mono ?_); rintro e wn1 ⟨rfl, hb⟩; refine ⟨_, rfl, ?_⟩; clear z8 z12; have H2 := ra (HC.out.below hb); clear HC; have HC := H2; clear H2; clear hb))
 have HCd : Aside0 (FC w g3 g5 #[.slice A0 l0.length c0] #[.bool a2, .string s2, .slice A2 l2.length c2] m n g8 (.slice D6 R.length c6) R g9 (.slice D9 X.length c9) X q p (.slice D10 L.length c10) L g11 eb es (.slice D11 EB.length c11) EB r g12 (.slice D12 Y.length c12) Y wn1.drew) := ⟨HC.out.below (pw_below_drewN (Below.refl _ _) 1)⟩
 clear HC
 have HC := HCd
 clear HCd
 refine start_ (n := 5) (S := fun w' => w'.cell? ⟨g9, 0, none⟩ = some (.slice D9 X.length c9) ∧ w'.cell? ⟨g3, 0, none⟩ = some (.slice A0 l0.length c0)) (ds := []) (bl 5 0) (by kernel_rfl) rfl rfl ⟨(blk_cell HC.out.b9 0).trans rfl, (blk_cell HC.out.a.p.b3 0).trans rfl⟩ (fun hHeld => ?_)
 generalize wn1.drew = wd53 at HC hHeld ⊢
 refine tk 0 53 (bl 5 1) ?_ hHeld
 refine tk 1 54 (bl 5 3) ?_ hHeld
 refine oe 2 55 (bl 5 7) (fun K hK => ?_)
 refine gs Tryz.func24 #[.agg #[.slice A0 l0.length c0]] ?_
 with_reducible refine (laws_toProbeIndex.calls _ _ _ l0 X' _ (Kd.C_below HR0.out HC.out.a.p.bl) HC0.out P10.out).mono ?_
 rintro e wy53_0 ⟨v55_, rfl, ho, hb⟩
 refine ⟨_, rfl, ?_⟩
 have H2 := ra (HC.out.below hb); clear HC; have HC := H2; clear H2
 obtain ⟨D55, c55, e_⟩ := Kd.S_slice ho; subst e_; clear hb
 refine hK.out _ _ ⟨(blk_cell HC.out.b9 0).trans rfl, (blk_cell HC.out.a.p.b3 0).trans rfl⟩ (fun hHeld => ?_)
 clear hK K
 refine nm 55 ?_
 refine oe 3 56 (bl 5 15) (fun K hK => ?_)
 refine gs Tryz.func27 #[.agg #[.slice D9 X.length c9], .agg #[.slice D55 X'.length c55]] ?_
 with_reducible refine (laws_eqProbeIndex.calls _ _ _ X _ _ X' true _ (Kd.S_reads' HC.out.x9).2.2 (Kd.S_reads' HC.out.x9).2.1 (Kd.S_reads' ho).2.2 (Kd.S_reads' ho).2.1 P11.out).mono ?_
 rintro e wy53_1 ⟨rfl, hb⟩
 refine ⟨_, rfl, ?_⟩
 have H2 := ra (HC.out.below hb); clear HC; have HC := H2; clear H2
 clear hb ho
 refine hK.out _ _ ⟨(blk_cell HC.out.b9 0).trans rfl, (blk_cell HC.out.a.p.b3 0).trans rfl⟩ (fun hHeld => ?_)
 clear hK K
 refine nm 56 ?_
 refine pu 4 57 (bl 5 31) ?_
 refine done_ (by kernel_rfl) ?_
 clear hHeld
 go_wp2_with (first
   | ((with_reducible refine gate_dst (N := 60) rfl ?_); refine gl (some 60) Tryz.func25 #[.slice AT l1.length c1] ?_; (with_reducible refine (laws_toProbeTubeS.calls _ _ _ l1 L' _ (Kd.C_below HR1.out HC.out.a.p.bl) HC1.out P12.out).mono ?_); rintro e wn2 ⟨v60_, rfl, ho, hb⟩; refine ⟨_, rfl, ?_⟩; have H2 := ra (HC.out.below hb); clear HC; have HC := H2; clear H2; obtain ⟨D60, c60, e_⟩ := Kd.S_slice ho; subst e_; have X60 := ra ho; clear hb ho)
   | ((with_reducible refine gate_dst (N := 61) rfl ?_); refine gl (some 61) Tryz.func28 #[.slice D10 L.length c10, .slice D60 L'.length c60] ?_; (with_reducible refine (laws_eqProbeTubeS.calls _ _ _ L _ _ L' true _ (Kd.S_reads' HC.out.x1).2.2 (Kd.S_reads' HC.out.x1).2.1 (Kd.S_reads' X60.out).2.2 (Kd.S_reads' X60.out).2.1 P13.out).mono ?_); rintro e wn3 ⟨rfl, hb⟩; refine ⟨_, rfl, ?_⟩; have H2 := ra (HC.out.below hb); clear HC; have HC := H2; clear H2; clear hb X60))
 have HCd : Aside0 (FC w g3 g5 #[.slice A0 l0.length c0] #[.bool a2, .string s2, .slice A2 l2.length c2] m n g8 (.slice D6 R.length c6) R g9 (.slice D9 X.length c9) X q p (.slice D10 L.length c10) L g11 eb es (.slice D11 EB.length c11) EB r g12 (.slice D12 Y.length c12) Y wn3.drew) := ⟨HC.out.below (pw_below_drewN (Below.refl _ _) 1)⟩
 clear HC
 have HC := HCd
 clear HCd
 refine start_ (n := 5) (S := fun w' => w'.cell? ⟨g11, 0, none⟩ = some (.bool eb) ∧ w'.cell? ⟨g11, 1, none⟩ = some (.string es) ∧ w'.cell? ⟨g11, 2, none⟩ = some (.slice D11 EB.length c11) ∧ w'.cell? ⟨g5, 0, none⟩ = some (.bool a2) ∧ w'.cell? ⟨g5, 1, none⟩ = some (.string s2) ∧ w'.cell? ⟨g5, 2, none⟩ = some (.slice A2 l2.length c2)) (ds := []) (bl 5 0) (by kernel_rfl) rfl rfl ⟨(blk_cell HC.out.b11 0).trans rfl, (blk_cell HC.out.b11 1).trans rfl, (blk_cell HC.out.b11 2).trans rfl, (blk_cell HC.out.a.p.b5 0).trans rfl, (blk_cell HC.out.a.p.b5 1).trans rfl, (blk_cell HC.out.a.p.b5 2).trans rfl⟩ (fun hHeld => ?_)
 generalize wn3.drew = wd63 at HC hHeld ⊢
 refine tk 0 63 (bl 5 1) ?_ hHeld
 refine tk 1 64 (bl 5 3) ?_ hHeld
 refine oe 2 65 (bl 5 7) (fun K hK => ?_)
 refine gs Tryz.func26 #[.agg #[.bool a2, .string s2, .slice A2 l2.length c2]] ?_
 with_reducible refine (laws_toProbeEvent.calls _ _ _ _ _ l2 eb2 es2 EB2 _ (Kd.C_below HR2.out HC.out.a.p.bl) HC2.out P14.out).mono ?_
 rintro e wy63_0 ⟨v65_, rfl, ho, hb⟩
 refine ⟨_, rfl, ?_⟩
 have H2 := ra (HC.out.below hb); clear HC; have HC := H2; clear H2
 obtain ⟨D65, c65, e_⟩ := Kd.R_slice ho; subst e_; clear hb
 refine hK.out _ _ ⟨(blk_cell HC.out.b11 0).trans rfl, (blk_cell HC.out.b11 1).trans rfl, (blk_cell HC.out.b11 2).trans rfl, (blk_cell HC.out.a.p.b5 0).trans rfl, (blk_cell HC.out.a.p.b5 1).trans rfl, (blk_cell HC.out.a.p.b5 2).trans rfl⟩ (fun hHeld => ?_)
 clear hK K
 refine nm 65 ?_
 refine oe 3 66 (bl 5 15) (fun K hK => ?_)
 refine gs Tryz.func29 #[.agg #[.bool eb, .string es, .slice D11 EB.length c11], .agg #[.bool eb2, .string es2, .slice D65 EB2.length c65]] ?_
 with_reducible refine (laws_eqProbeEvent.calls _ _ _ _ _ EB _ _ _ _ EB2 true _ (Kd.R_reads' HC.out.e11).2.2 (Kd.R_reads' HC.out.e11).2.1 (Kd.R_reads' ho).2.2 (Kd.R_reads' ho).2.1 P15.out).mono ?_
 rintro e wy63_1 ⟨rfl, hb⟩
 refine ⟨_, rfl, ?_⟩
 have H2 := ra (HC.out.below hb); clear HC; have HC := H2; clear H2
 clear hb ho
 refine hK.out _ _ ⟨(blk_cell HC.out.b11 0).trans rfl, (blk_cell HC.out.b11 1).trans rfl, (blk_cell HC.out.b11 2).trans rfl, (blk_cell HC.out.a.p.b5 0).trans rfl, (blk_cell HC.out.a.p.b5 1).trans rfl, (blk_cell HC.out.a.p.b5 2).trans rfl⟩ (fun hHeld => ?_)
 clear hK K
 refine nm 66 ?_
 refine pu 4 67 (bl 5 31) ?_
 refine done_ (by kernel_rfl) ?_
 clear hHeld
 obtain ⟨z9, _⟩ := zc1 (ra HC.out.b9)
 have ONR : Aside0 (n ≤ r) := ⟨by have := HC.out.o; omega⟩
 go_wp2_with (first
   | ((with_reducible refine gate_dst (N := 70) rfl ?_); refine gl (some 70) Tryz.func30 #[.agg #[.slice D9 X.length c9], .int .i64 1] ?_; (with_reducible refine (laws_markProbeIndex.calls _ (In n g9) (.slice D9 X.length c9) X 1 m1 X1 w _ HC.out.a.p.bl HC.out.x9 P16.out).mono ?_); rintro e wo1 ⟨rfl, ht, hbl, hk⟩; refine ⟨_, rfl, ?_⟩; clear z9; have H1 := ra (HC.out.f1 hbl hk); clear HC ht hbl hk)
   | ((with_reducible refine gate_dst (N := 73) rfl ?_); refine gl (some 73) Tryz.func31 #[.slice D10 L.length c10, .int .i64 m1] ?_; (with_reducible refine (laws_markProbeTubeS.calls _ (In q p) (.slice D10 L.length c10) L m1 m2 L2 w _ H1.out.a.p.bl H1.out.x1 P17.out).mono ?_); rintro e wo2 ⟨rfl, ht, hbl, hk⟩; refine ⟨_, rfl, ?_⟩; have H2 := ra (H1.out.f2 hbl hk); clear H1 ht hbl hk; obtain ⟨z11a, z11b, z11c, _⟩ := zc3 (ra H2.out.b11))
   | ((with_reducible refine gate_dst (N := 76) rfl ?_); refine gl (some 76) Tryz.func32 #[.agg #[.bool eb, .string es, .slice D11 EB.length c11], .int .i64 m2] ?_; (with_reducible refine (laws_markProbeEvent.calls _ eb es (In p g11) (.slice D11 EB.length c11) EB m2 m3 E3 w _ H2.out.a.p.bl H2.out.e11 P18.out).mono ?_); rintro e wo3 ⟨rfl, ht, hbl, hk⟩; refine ⟨_, rfl, ?_⟩; clear z11a z11b z11c; have HD := ra (H2.out.fd hbl hk); clear H2 ht hbl hk; obtain ⟨z8, _⟩ := zc1 (ra HD.out.a.b8); obtain ⟨z12, _⟩ := zc1 (ra HD.out.b12))
   | ((with_reducible refine (laws_eqProbeIndex.calls _ _ _ Y _ _ R true _ (Kd.S_reads' HD.out.y).2.2 (Kd.S_reads' HD.out.y).2.1 (Kd.S_reads' HD.out.a.x8).2.2 (Kd.S_reads' HD.out.a.x8).2.1 P19.out).mono ?_); rintro e wo4 ⟨rfl, hb⟩; clear z8 z12; have H2 := ra (HD.out.below hb); clear HD; have HD := H2; clear H2; obtain ⟨z12, _⟩ := zc1 (ra HD.out.b12); clear hb)
   | ((with_reducible refine gate_dst (N := 87) rfl ?_); refine gl (some 87) Tryz.func30 #[.agg #[.slice D12 Y.length c12], .int .i64 1] ?_; (with_reducible refine (laws_markProbeIndex.calls _ (In r g12) (.slice D12 Y.length c12) Y 1 mk Y1 w _ HD.out.a.p.bl HD.out.y P20.out).mono ?_); rintro e wo5 ⟨rfl, ht, hbl, hk⟩; refine ⟨_, rfl, ?_⟩; clear z12; have H2 := ra (HD.out.marked ONR.out hbl hk ht); clear HD ht hbl hk; have HD := H2; clear H2; have HE := ra (Kd.S_reads' HD.out.y).1; obtain ⟨z12, _⟩ := zc1 (ra HD.out.b12))
   | ((with_reducible refine gate_dst (N := 90) rfl ?_); refine gl (some 90) Tryz.func33 #[.agg #[.slice D12 Y.length c12], .int .i64 1] ?_; rw [HE.out]; (with_reducible refine (laws_heldProbeIndex.calls _ _ _ Y1 1 mk _ (Kd.S_reads' HD.out.y).2.2 (by have h_ := (Kd.S_reads' HD.out.y).2.1; rwa [HE.out] at h_) P21.out).mono ?_); rintro e wo6 ⟨rfl, hb⟩; refine ⟨_, rfl, ?_⟩; clear z12; have H2 := ra (HD.out.below hb); clear HD; have HD := H2; clear H2; clear hb))
 have HDd : Aside0 (FD w g3 g5 #[.slice A0 l0.length c0] #[.bool a2, .string s2, .slice A2 l2.length c2] m n g8 (.slice D6 R.length c6) R (fun _ => True) g12 (.slice D12 Y.length c12) Y1 wo6.drew) := ⟨HD.out.below (pw_below_drewN (Below.refl _ _) 1)⟩; clear HD
 refine start_ (n := 9) (S := fun w' => w'.cell? ⟨g3, 0, none⟩ = some (.slice A0 l0.length c0) ∧ w'.cell? ⟨g5, 0, none⟩ = some (.bool a2) ∧ w'.cell? ⟨g5, 1, none⟩ = some (.string s2) ∧ w'.cell? ⟨g5, 2, none⟩ = some (.slice A2 l2.length c2)) (ds := []) (bl 9 0) (by kernel_rfl) rfl rfl ⟨(blk_cell HDd.out.a.p.b3 0).trans rfl, (blk_cell HDd.out.a.p.b5 0).trans rfl, (blk_cell HDd.out.a.p.b5 1).trans rfl, (blk_cell HDd.out.a.p.b5 2).trans rfl⟩ (fun hHeld => ?_)
 refine with_tabW lf.tab38 lf.bits11 (fun HT_ HW_ => ?_)
 generalize wo6.drew = wd at HDd hHeld ⊢
 have hS : ∀ w', Below wd.heap.size wd w' → w'.cell? ⟨g3, 0, none⟩ = some (.slice A0 l0.length c0) ∧ w'.cell? ⟨g5, 0, none⟩ = some (.bool a2) ∧ w'.cell? ⟨g5, 1, none⟩ = some (.string s2) ∧ w'.cell? ⟨g5, 2, none⟩ = some (.slice A2 l2.length c2) := fun w' hb => by have h := (HDd.out).below hb; exact ⟨(blk_cell h.a.p.b3 0).trans rfl, (blk_cell h.a.p.b5 0).trans rfl, (blk_cell h.a.p.b5 1).trans rfl, (blk_cell h.a.p.b5 2).trans rfl⟩
 obtain ⟨mm, hm⟩ : ∃ m, m = wd.heap.size := ⟨_, rfl⟩
 have hwm : w.heap.size ≤ mm := by rw [hm]; exact below_size (HDd.out).a.p.bl
 have hB0 : Below wd.heap.size wd wd := Below.refl _ _
 refine pu 2 98 (bl 9 4) ?_
 refine tk 0 96 (bl 9 5) ?_ hHeld
 refine tk 4 100 (bl 9 21) ?_ hHeld
 refine join_ (σ := Value × Value × Value × Value × Nat) 1 #[true, true, true, true, true, true, true, true, false] (fun s_ => [(97, .agg #[s_.1]), (99, s_.2.1), (101, .agg #[.bool eb4, .string es4, s_.2.2.1]), (102, .agg #[s_.2.2.2.1]), (16, .pointer (some ⟨s_.2.2.2.2, 0, none⟩))]) (fun s_ w' => (w'.cell? ⟨g3, 0, none⟩ = some (.slice A0 l0.length c0) ∧ w'.cell? ⟨g5, 0, none⟩ = some (.bool a2) ∧ w'.cell? ⟨g5, 1, none⟩ = some (.string s2) ∧ w'.cell? ⟨g5, 2, none⟩ = some (.slice A2 l2.length c2)) ∧ Below wd.heap.size wd w' ∧ w'.heap[s_.2.2.2.2]? = some (.cells #[.slice none 0 0] 28 (0, 0)) ∧ mm ≤ s_.2.2.2.2 ∧ Kd.S k84 84 w' w.heap.size (fun k => mm ≤ k ∧ k ≠ s_.2.2.2.2) s_.2.2.2.1 Y4) ?_ ?_
 rotate_left
 · intro hCont
   refine two_ (i := 1) (j := 7) (Ni := some 97) (Nj := some 16) #[true, true, true, false, true, false, false, false, false] #[true, false, true, false, true, false, false, true, false] rfl rfl rfl rfl (two_of HT_.out (by kernel_rfl)) (by decide) (by decide) (fun K hK => ?_) (fun K hK => ?_)
   · skip
     refine gs Tryz.func24 #[.agg #[.slice A0 l0.length c0]] ?_
     with_reducible refine (laws_toProbeIndex.calls _ _ _ l0 I4 _ (Kd.C_below HR0.out (((HDd.out).below hB0).a.p).bl) HC0.out P22.out).mono ?_
     rintro e wx133 ⟨v135, rfl, h136, hb⟩
     refine ⟨_, rfl, ?_⟩
     obtain ⟨D137, c138, e_⟩ := Kd.S_slice h136; subst e_
     have hB134 := below_step hB0 hb
     refine hK.out _ _ (hS _ hB134) (fun hHeld => ?_)
     clear hK K
     refine nm 97 ?_
     refine two_ (i := 3) (j := 7) (Ni := some 99) (Nj := some 16) #[true, true, true, true, true, false, false, false, false] #[true, true, true, false, true, false, false, true, false] rfl rfl rfl rfl (two_of HT_.out (by kernel_rfl)) (by decide) (by decide) (fun K hK => ?_) (fun K hK => ?_)
     · skip
       refine gs Tryz.func25 #[.slice AT l1.length c1] ?_
       with_reducible refine (laws_toProbeTubeS.calls _ _ _ l1 L4 _ (Kd.C_below HR1.out (((HDd.out).below hB134).a.p).bl) HC1.out P23.out).mono ?_
       rintro e wx139 ⟨v141, rfl, h142, hb⟩
       refine ⟨_, rfl, ?_⟩
       obtain ⟨D143, c144, e_⟩ := Kd.S_slice h142; subst e_
       have hB140 := below_step hB134 hb
       have h145 := Kd.S_below h136 hb
       refine hK.out _ _ (hS _ hB140) (fun hHeld => ?_)
       clear hK K
       refine nm 99 ?_
       refine two_ (i := 5) (j := 7) (Ni := some 101) (Nj := some 16) #[true, true, true, true, true, true, false, false, false] #[true, true, true, true, true, false, false, true, false] rfl rfl rfl rfl (two_of HT_.out (by kernel_rfl)) (by decide) (by decide) (fun K hK => ?_) (fun K hK => ?_)
       · skip
         refine gs Tryz.func26 #[.agg #[.bool a2, .string s2, .slice A2 l2.length c2]] ?_
         with_reducible refine (laws_toProbeEvent.calls _ _ _ _ _ l2 eb4 es4 EB4 _ (Kd.C_below HR2.out (((HDd.out).below hB140).a.p).bl) HC2.out P24.out).mono ?_
         rintro e wx146 ⟨v148, rfl, h149, hb⟩
         refine ⟨_, rfl, ?_⟩
         obtain ⟨D150, c151, e_⟩ := Kd.R_slice h149; subst e_
         have hB147 := below_step hB140 hb
         have h152 := Kd.S_below h145 hb
         have h153 := Kd.S_below h142 hb
         refine hK.out _ _ (hS _ hB147) (fun hHeld => ?_)
         clear hK K
         refine nm 101 ?_
         refine two_ (i := 6) (j := 7) (Ni := some 102) (Nj := some 16) #[true, true, true, true, true, true, true, false, false] #[true, true, true, true, true, true, false, true, false] rfl rfl rfl rfl (two_of HT_.out (by kernel_rfl)) (by decide) (by decide) (fun K hK => ?_) (fun K hK => ?_)
         · skip
           refine gs Tryz.func10 #[.agg #[(.slice D137 I4.length c138)], (.slice D143 L4.length c144), .agg #[.bool eb4, .string es4, (.slice D150 EB4.length c151)]] ?_
           with_reducible refine (impl_ProbeFollow.calls _ _ _ I4 _ _ L4 eb4 es4 _ _ EB4 Y4 _ (Kd.S_reads' h152).2.2 (Kd.S_reads' h152).2.1 (Kd.S_reads' h153).2.2 (Kd.S_reads' h153).2.1 (Kd.R_reads' h149).2.2 (Kd.R_reads' h149).2.1 P25.out).mono ?_
           rintro e wx154 ⟨v156, rfl, h157, hb⟩
           refine ⟨_, rfl, ?_⟩
           have hB155 := below_step hB147 hb
           have h158 : Kd.S k84 84 _ w.heap.size (fun k => mm ≤ k) _ _ := Kd.S_lower (Kd.S_mono (Kd.S_bound h157) fun k hk => Nat.le_trans (by rw [hm]; exact below_size hB147) hk.2.1) (Nat.le_trans hwm (by rw [hm]; exact below_size hB147))
           refine hK.out _ _ (hS _ hB155) (fun hHeld => ?_)
           clear hK K
           refine nm 102 ?_
           refine oe 7 16 (bl 9 255) (fun K hK => ?_)
           refine box_step ?hg (N := 16) ?hd (cs := #[.slice none 0 0]) (t := 28) ?hr ?_; (case hd => rfl); (case hg => rfl); (case hr => first | (go_simp; done) | (go_simp; rfl))
           intro g161 hgg wx159 hg162 hb
           have hB160 := below_step hB155 hb
           have hmg163 : mm ≤ g161 := by rw [hm, hgg]; exact below_size hB155
           have h164 := S_pre h158 hgg hb
           refine hK.out _ _ (hS _ hB160) (fun hHeld => ?_)
           clear hK K
           refine nm 16 ?_
           exact norm_ (by first | (simp only [putAll, Act.put, List.setIfInBounds_toArray, List.set_cons_zero, List.set_cons_succ]; done) | (simp only [putAll, Act.put, List.setIfInBounds_toArray, List.set_cons_zero, List.set_cons_succ]; rfl)) (hCont ((.slice D137 I4.length c138), (.slice D143 L4.length c144), (.slice D150 EB4.length c151), v156, g161) _ ⟨hHeld, hB160, hg162, hmg163, h164⟩)
         · skip
           refine box_step ?hg (N := 16) ?hd (cs := #[.slice none 0 0]) (t := 28) ?hr ?_; (case hd => rfl); (case hg => rfl); (case hr => first | (go_simp; done) | (go_simp; rfl))
           intro g167 hgg wx165 hg168 hb
           have hB166 := below_step hB147 hb
           have hmg169 : mm ≤ g167 := by rw [hm, hgg]; exact below_size hB147
           have h170 := Kd.S_below h152 hb
           have h171 := Kd.S_below h153 hb
           have h172 := Kd.R_below h149 hb
           refine hK.out _ _ (hS _ hB166) (fun hHeld => ?_)
           clear hK K
           refine nm 16 ?_
           refine oe 6 102 (bl 9 255) (fun K hK => ?_)
           refine gs Tryz.func10 #[.agg #[(.slice D137 I4.length c138)], (.slice D143 L4.length c144), .agg #[.bool eb4, .string es4, (.slice D150 EB4.length c151)]] ?_
           with_reducible refine (impl_ProbeFollow.calls _ _ _ I4 _ _ L4 eb4 es4 _ _ EB4 Y4 _ (Kd.S_reads' h170).2.2 (Kd.S_reads' h170).2.1 (Kd.S_reads' h171).2.2 (Kd.S_reads' h171).2.1 (Kd.R_reads' h172).2.2 (Kd.R_reads' h172).2.1 P25.out).mono ?_
           rintro e wx173 ⟨v175, rfl, h176, hb⟩
           refine ⟨_, rfl, ?_⟩
           have hB174 := below_step hB166 hb
           have hg177 := blk_below hg168 hb
           have h178 := S_post (base := w.heap.size) (m := mm) h176 (blk_lt hg168) (by rw [hm]; exact below_size hB166) (Nat.le_trans hwm (by rw [hm]; exact below_size hB166))
           refine hK.out _ _ (hS _ hB174) (fun hHeld => ?_)
           clear hK K
           refine nm 102 ?_
           exact norm_ (by first | (simp only [putAll, Act.put, List.setIfInBounds_toArray, List.set_cons_zero, List.set_cons_succ]; done) | (simp only [putAll, Act.put, List.setIfInBounds_toArray, List.set_cons_zero, List.set_cons_succ]; rfl)) (hCont ((.slice D137 I4.length c138), (.slice D143 L4.length c144), (.slice D150 EB4.length c151), v175, g167) _ ⟨hHeld, hB174, hg177, hmg169, h178⟩)
       · skip
         refine box_step ?hg (N := 16) ?hd (cs := #[.slice none 0 0]) (t := 28) ?hr ?_; (case hd => rfl); (case hg => rfl); (case hr => first | (go_simp; done) | (go_simp; rfl))
         intro g181 hgg wx179 hg182 hb
         have hB180 := below_step hB140 hb
         have hmg183 : mm ≤ g181 := by rw [hm, hgg]; exact below_size hB140
         have h184 := Kd.S_below h145 hb
         have h185 := Kd.S_below h142 hb
         refine hK.out _ _ (hS _ hB180) (fun hHeld => ?_)
         clear hK K
         refine nm 16 ?_
         refine oe 5 101 (bl 9 191) (fun K hK => ?_)
         refine gs Tryz.func26 #[.agg #[.bool a2, .string s2, .slice A2 l2.length c2]] ?_
         with_reducible refine (laws_toProbeEvent.calls _ _ _ _ _ l2 eb4 es4 EB4 _ (Kd.C_below HR2.out (((HDd.out).below hB180).a.p).bl) HC2.out P24.out).mono ?_
         rintro e wx186 ⟨v188, rfl, h189, hb⟩
         refine ⟨_, rfl, ?_⟩
         obtain ⟨D190, c191, e_⟩ := Kd.R_slice h189; subst e_
         have hB187 := below_step hB180 hb
         have h192 := Kd.S_below h184 hb
         have h193 := Kd.S_below h185 hb
         have hg194 := blk_below hg182 hb
         refine hK.out _ _ (hS _ hB187) (fun hHeld => ?_)
         clear hK K
         refine nm 101 ?_
         refine oe 6 102 (bl 9 255) (fun K hK => ?_)
         refine gs Tryz.func10 #[.agg #[(.slice D137 I4.length c138)], (.slice D143 L4.length c144), .agg #[.bool eb4, .string es4, (.slice D190 EB4.length c191)]] ?_
         with_reducible refine (impl_ProbeFollow.calls _ _ _ I4 _ _ L4 eb4 es4 _ _ EB4 Y4 _ (Kd.S_reads' h192).2.2 (Kd.S_reads' h192).2.1 (Kd.S_reads' h193).2.2 (Kd.S_reads' h193).2.1 (Kd.R_reads' h189).2.2 (Kd.R_reads' h189).2.1 P25.out).mono ?_
         rintro e wx195 ⟨v197, rfl, h198, hb⟩
         refine ⟨_, rfl, ?_⟩
         have hB196 := below_step hB187 hb
         have hg199 := blk_below hg194 hb
         have h200 := S_post (base := w.heap.size) (m := mm) h198 (blk_lt hg194) (by rw [hm]; exact below_size hB187) (Nat.le_trans hwm (by rw [hm]; exact below_size hB187))
         refine hK.out _ _ (hS _ hB196) (fun hHeld => ?_)
         clear hK K
         refine nm 102 ?_
         exact norm_ (by first | (simp only [putAll, Act.put, List.setIfInBounds_toArray, List.set_cons_zero, List.set_cons_succ]; done) | (simp only [putAll, Act.put, List.setIfInBounds_toArray, List.set_cons_zero, List.set_cons_succ]; rfl)) (hCont ((.slice D137 I4.length c138), (.slice D143 L4.length c144), (.slice D190 EB4.length c191), v197, g181) _ ⟨hHeld, hB196, hg199, hmg183, h200⟩)
     · skip
       refine box_step ?hg (N := 16) ?hd (cs := #[.slice none 0 0]) (t := 28) ?hr ?_; (case hd => rfl); (case hg => rfl); (case hr => first | (go_simp; done) | (go_simp; rfl))
       intro g203 hgg wx201 hg204 hb
       have hB202 := below_step hB134 hb
       have hmg205 : mm ≤ g203 := by rw [hm, hgg]; exact below_size hB134
       have h206 := Kd.S_below h136 hb
       refine hK.out _ _ (hS _ hB202) (fun hHeld => ?_)
       clear hK K
       refine nm 16 ?_
       refine oe 3 99 (bl 9 159) (fun K hK => ?_)
       refine gs Tryz.func25 #[.slice AT l1.length c1] ?_
       with_reducible refine (laws_toProbeTubeS.calls _ _ _ l1 L4 _ (Kd.C_below HR1.out (((HDd.out).below hB202).a.p).bl) HC1.out P23.out).mono ?_
       rintro e wx207 ⟨v209, rfl, h210, hb⟩
       refine ⟨_, rfl, ?_⟩
       obtain ⟨D211, c212, e_⟩ := Kd.S_slice h210; subst e_
       have hB208 := below_step hB202 hb
       have h213 := Kd.S_below h206 hb
       have hg214 := blk_below hg204 hb
       refine hK.out _ _ (hS _ hB208) (fun hHeld => ?_)
       clear hK K
       refine nm 99 ?_
       refine oe 5 101 (bl 9 191) (fun K hK => ?_)
       refine gs Tryz.func26 #[.agg #[.bool a2, .string s2, .slice A2 l2.length c2]] ?_
       with_reducible refine (laws_toProbeEvent.calls _ _ _ _ _ l2 eb4 es4 EB4 _ (Kd.C_below HR2.out (((HDd.out).below hB208).a.p).bl) HC2.out P24.out).mono ?_
       rintro e wx215 ⟨v217, rfl, h218, hb⟩
       refine ⟨_, rfl, ?_⟩
       obtain ⟨D219, c220, e_⟩ := Kd.R_slice h218; subst e_
       have hB216 := below_step hB208 hb
       have h221 := Kd.S_below h213 hb
       have h222 := Kd.S_below h210 hb
       have hg223 := blk_below hg214 hb
       refine hK.out _ _ (hS _ hB216) (fun hHeld => ?_)
       clear hK K
       refine nm 101 ?_
       refine oe 6 102 (bl 9 255) (fun K hK => ?_)
       refine gs Tryz.func10 #[.agg #[(.slice D137 I4.length c138)], (.slice D211 L4.length c212), .agg #[.bool eb4, .string es4, (.slice D219 EB4.length c220)]] ?_
       with_reducible refine (impl_ProbeFollow.calls _ _ _ I4 _ _ L4 eb4 es4 _ _ EB4 Y4 _ (Kd.S_reads' h221).2.2 (Kd.S_reads' h221).2.1 (Kd.S_reads' h222).2.2 (Kd.S_reads' h222).2.1 (Kd.R_reads' h218).2.2 (Kd.R_reads' h218).2.1 P25.out).mono ?_
       rintro e wx224 ⟨v226, rfl, h227, hb⟩
       refine ⟨_, rfl, ?_⟩
       have hB225 := below_step hB216 hb
       have hg228 := blk_below hg223 hb
       have h229 := S_post (base := w.heap.size) (m := mm) h227 (blk_lt hg223) (by rw [hm]; exact below_size hB216) (Nat.le_trans hwm (by rw [hm]; exact below_size hB216))
       refine hK.out _ _ (hS _ hB225) (fun hHeld => ?_)
       clear hK K
       refine nm 102 ?_
       exact norm_ (by first | (simp only [putAll, Act.put, List.setIfInBounds_toArray, List.set_cons_zero, List.set_cons_succ]; done) | (simp only [putAll, Act.put, List.setIfInBounds_toArray, List.set_cons_zero, List.set_cons_succ]; rfl)) (hCont ((.slice D137 I4.length c138), (.slice D211 L4.length c212), (.slice D219 EB4.length c220), v226, g203) _ ⟨hHeld, hB225, hg228, hmg205, h229⟩)
   · skip
     refine box_step ?hg (N := 16) ?hd (cs := #[.slice none 0 0]) (t := 28) ?hr ?_; (case hd => rfl); (case hg => rfl); (case hr => first | (go_simp; done) | (go_simp; rfl))
     intro g232 hgg wx230 hg233 hb
     have hB231 := below_step hB0 hb
     have hmg234 : mm ≤ g232 := by rw [hm, hgg]; exact below_size hB0
     refine hK.out _ _ (hS _ hB231) (fun hHeld => ?_)
     clear hK K
     refine nm 16 ?_
     refine oe 1 97 (bl 9 151) (fun K hK => ?_)
     refine gs Tryz.func24 #[.agg #[.slice A0 l0.length c0]] ?_
     with_reducible refine (laws_toProbeIndex.calls _ _ _ l0 I4 _ (Kd.C_below HR0.out (((HDd.out).below hB231).a.p).bl) HC0.out P22.out).mono ?_
     rintro e wx235 ⟨v237, rfl, h238, hb⟩
     refine ⟨_, rfl, ?_⟩
     obtain ⟨D239, c240, e_⟩ := Kd.S_slice h238; subst e_
     have hB236 := below_step hB231 hb
     have hg241 := blk_below hg233 hb
     refine hK.out _ _ (hS _ hB236) (fun hHeld => ?_)
     clear hK K
     refine nm 97 ?_
     refine oe 3 99 (bl 9 159) (fun K hK => ?_)
     refine gs Tryz.func25 #[.slice AT l1.length c1] ?_
     with_reducible refine (laws_toProbeTubeS.calls _ _ _ l1 L4 _ (Kd.C_below HR1.out (((HDd.out).below hB236).a.p).bl) HC1.out P23.out).mono ?_
     rintro e wx242 ⟨v244, rfl, h245, hb⟩
     refine ⟨_, rfl, ?_⟩
     obtain ⟨D246, c247, e_⟩ := Kd.S_slice h245; subst e_
     have hB243 := below_step hB236 hb
     have h248 := Kd.S_below h238 hb
     have hg249 := blk_below hg241 hb
     refine hK.out _ _ (hS _ hB243) (fun hHeld => ?_)
     clear hK K
     refine nm 99 ?_
     refine oe 5 101 (bl 9 191) (fun K hK => ?_)
     refine gs Tryz.func26 #[.agg #[.bool a2, .string s2, .slice A2 l2.length c2]] ?_
     with_reducible refine (laws_toProbeEvent.calls _ _ _ _ _ l2 eb4 es4 EB4 _ (Kd.C_below HR2.out (((HDd.out).below hB243).a.p).bl) HC2.out P24.out).mono ?_
     rintro e wx250 ⟨v252, rfl, h253, hb⟩
     refine ⟨_, rfl, ?_⟩
     obtain ⟨D254, c255, e_⟩ := Kd.R_slice h253; subst e_
     have hB251 := below_step hB243 hb
     have h256 := Kd.S_below h248 hb
     have h257 := Kd.S_below h245 hb
     have hg258 := blk_below hg249 hb
     refine hK.out _ _ (hS _ hB251) (fun hHeld => ?_)
     clear hK K
     refine nm 101 ?_
     refine oe 6 102 (bl 9 255) (fun K hK => ?_)
     refine gs Tryz.func10 #[.agg #[(.slice D239 I4.length c240)], (.slice D246 L4.length c247), .agg #[.bool eb4, .string es4, (.slice D254 EB4.length c255)]] ?_
     with_reducible refine (impl_ProbeFollow.calls _ _ _ I4 _ _ L4 eb4 es4 _ _ EB4 Y4 _ (Kd.S_reads' h256).2.2 (Kd.S_reads' h256).2.1 (Kd.S_reads' h257).2.2 (Kd.S_reads' h257).2.1 (Kd.R_reads' h253).2.2 (Kd.R_reads' h253).2.1 P25.out).mono ?_
     rintro e wx259 ⟨v261, rfl, h262, hb⟩
     refine ⟨_, rfl, ?_⟩
     have hB260 := below_step hB251 hb
     have hg263 := blk_below hg258 hb
     have h264 := S_post (base := w.heap.size) (m := mm) h262 (blk_lt hg258) (by rw [hm]; exact below_size hB251) (Nat.le_trans hwm (by rw [hm]; exact below_size hB251))
     refine hK.out _ _ (hS _ hB260) (fun hHeld => ?_)
     clear hK K
     refine nm 102 ?_
     exact norm_ (by first | (simp only [putAll, Act.put, List.setIfInBounds_toArray, List.set_cons_zero, List.set_cons_succ]; done) | (simp only [putAll, Act.put, List.setIfInBounds_toArray, List.set_cons_zero, List.set_cons_succ]; rfl)) (hCont ((.slice D239 I4.length c240), (.slice D246 L4.length c247), (.slice D254 EB4.length c255), v261, g232) _ ⟨hHeld, hB260, hg263, hmg234, h264⟩)
 rintro ⟨v1_, v3_, v5_, v6_, g16⟩ wN ⟨hHeld, hBN, hgN, hmg, h6⟩
 obtain ⟨D16, c16, e_⟩ := Kd.S_slice h6; have e_ : v6_ = .slice D16 Y4.length c16 := e_; subst e_
 refine norm_ (a' := ?_) ?_ ?_
 rotate_left
 · simp only [putAll, Act.put, List.setIfInBounds_toArray, List.set_cons_zero, List.set_cons_succ]
   rfl
 refine one_ (i := 8) (N := none) #[true, true, true, true, true, true, true, true, true] rfl rfl (one_of HT_.out (by kernel_rfl)) (by decide) (fun K hK => ?_)
 have hs_ : wN.cell? ⟨g16, 0, none⟩ = some (.slice none 0 0) := (blk_cell hgN 0).trans rfl
 have hfs_ := blk_frozen hgN 0
 refine skip_ (w1 := ?_) (by rfl) rfl ?_ ?_
 rotate_left
 · go_simp
   rfl
 have hBM : Below wd.heap.size wd (wN.setCell ⟨g16, 0, none⟩ (.slice D16 Y4.length c16)) := below_set hBN (by rw [← hm]; exact hmg)
 refine hK.out _ _ (hS _ hBM) (fun hHeld => ?_)
 clear hK K
 refine done_ (done_of HT_.out (by kernel_rfl)) ?_
 have hx6 := Kd.S_far (p := ⟨g16, 0, none⟩) h6 (fun _ hk => hk.2) (.slice D16 Y4.length c16)
 have hb6 : Aside0 ((wN.setCell ⟨g16, 0, none⟩ (.slice D16 Y4.length c16)).heap[g16]? = some (.cells #[.slice D16 Y4.length c16] 28 (0, 0))) := ⟨Z.bp (ra hgN)⟩
 have HD := ra (HDd.out.below hBM)
 have X16 := ra hx6
 generalize wN.setCell ⟨g16, 0, none⟩ (.slice D16 Y4.length c16) = wq at HD X16 hb6 ⊢
 clear hS hm hwm hB0 hHeld hBN hgN hmg h6 hBM hx6 HT_ HW_ HDd hs_ hfs_
 obtain ⟨z16, _⟩ := zc1 hb6; obtain ⟨z8, _⟩ := zc1 (ra HD.out.a.b8); obtain ⟨z12, _⟩ := zc1 (ra HD.out.b12)
 go_wp2_with (first
   | ((with_reducible refine gate_dst (N := 105) rfl ?_); refine gl (some 105) Tryz.func27 #[.agg #[.slice D16 Y4.length c16], .agg #[.slice D6 R.length c6]] ?_; (with_reducible refine (laws_eqProbeIndex.calls _ _ _ Y4 _ _ R true _ (Kd.S_reads' X16.out).2.2 (Kd.S_reads' X16.out).2.1 (Kd.S_reads' HD.out.a.x8).2.2 (Kd.S_reads' HD.out.a.x8).2.1 P26.out).mono ?_); rintro e wr1 ⟨rfl, hb⟩; refine ⟨_, rfl, ?_⟩; clear z16; clear z8 z12; have H2 := ra (HD.out.below hb); clear HD; have HD := H2; clear H2; obtain ⟨z12, _⟩ := zc1 (ra HD.out.b12); clear hb X16 hb6)
   | ((with_reducible refine gate_dst (N := 109) rfl ?_); refine gl (some 109) Tryz.func33 #[.agg #[.slice D12 Y.length c12], .int .i64 1] ?_; rw [HE.out]; (with_reducible refine (laws_heldProbeIndex.calls _ _ _ Y1 1 mk _ (Kd.S_reads' HD.out.y).2.2 (by have h_ := (Kd.S_reads' HD.out.y).2.1; rwa [HE.out] at h_) P27.out).mono ?_); rintro e wr2 ⟨rfl, hb⟩; refine ⟨_, rfl, ?_⟩; clear z12; have H2 := ra (HD.out.below hb); clear HD; have HD := H2; clear H2; clear hb))
 go_ret
 exact ⟨re, HD.out.a.p.bl⟩
end Go.Proofs.YtgklmafdbgnohaaGreat.PA
