/- What the program's functions on boxes and tubes compute, and the reference's: one model for both. No condition beside the sizes that are typed. What ProbeMeet computes, program and reference. No condition beside the sizes that are typed. What ProbeSmaller computes, program and reference. No condition beside the sizes that are typed. What the laws' own helpers compute (sizes, copies, comparisons), and the functions on tubes: sky, smaller, meet, with, free. No condition beside the sizes that are typed. ProbeCut, the marks, ProbeWith, ProbeFree. No condition beside the sizes that are typed. -/
import Derived.Test.YtdbomnhdpniigaaPAd
import Derived.Test.YtdbomnhdpniigaaGood
section
namespace Go.Proofs.Ytdbomnhdpniigaa.Q
open Go.RowKit Go.Proofs.Ytdbomnhdpniigaa.PA Go.Proofs.YtdbomnhdpniigaaW.PrintWords Go.Proofs.YtdbomnhdpniigaaW.PrintLast Go.Proofs.YtdbomnhdpniigaaW.PrintMore

section
variable {α β : Type} {r : α}
theorem Ev.pos {c : Prop} [Decidable c] {A B : Nat → Option α} (h : c) (e : Ev A r) : Ev (fun k => if c then A k else B k) r := Ev.congr (fun _ => if_pos h) e
theorem Ev.neg {c : Prop} [Decidable c] {A B : Nat → Option α} (h : ¬ c) (e : Ev B r) : Ev (fun k => if c then A k else B k) r := Ev.congr (fun _ => if_neg h) e
theorem Ev.is {a : Option α} (h : a = some r) : Ev (fun _ => a) r := ⟨0, fun _ _ => h⟩
theorem Ev.eq {g : Nat → Option α} {r r' : α} (h : Ev g r) (e : r = r') : Ev g r' := e ▸ h
/-- A list from a place on. -/
theorem drop_ind (l : List α) {P : Nat → List α → Prop} (h0 : P l.length []) (h1 : ∀ i (hi : i < l.length), P (i + 1) (l.drop (i + 1)) → P i (l[i] :: l.drop (i + 1))) : ∀ i, i ≤ l.length → P i (l.drop i) := by
 intro i hi
 induction hd : l.length - i generalizing i with
 | zero =>
  obtain rfl : i = l.length := by omega
  rw [List.drop_length]
  exact h0
 | succ d ih =>
  have hlt : i < l.length := by omega
  rw [List.drop_eq_getElem_cons hlt]
  exact h1 i hlt (ih (i + 1) (by omega) (by omega))
end
theorem all_yes {α : Type} {p : α → Bool} {a : α} {l : List α} (h : p a = true) : l.all p = (a :: l).all p := by rw [List.all_cons, h, Bool.true_and]
theorem all_no {α : Type} {p : α → Bool} {a : α} {l : List α} (h : ¬ p a = true) : (false : Bool) = (a :: l).all p := by rw [List.all_cons, Bool.eq_false_iff.2 h, Bool.false_and]
theorem w64 {i : Nat} {n : Nat} (h : i < n) (hn : n ≤ 9223372036854775807) : wrap64 ((i : Int) + 1) = ((i + 1 : Nat) : Int) := by
 unfold wrap64
 omega
theorem wsub {a b : Int} (h0 : 0 ≤ a) (h1 : a ≤ 1048576) (h2 : 0 ≤ b) (h3 : b ≤ 9223372036854775807) : wrap64 (a - b) = a - b := by
 unfold wrap64
 omega

/-! ### Boxes -/
def boxOk (a b c d e f : Int) : Bool := decide (0 ≤ a ∧ a ≤ 15 ∧ 0 ≤ b ∧ b ≤ 15 ∧ 0 ≤ c ∧ c ≤ d ∧ d ≤ 6 ∧ 0 ≤ e ∧ e ≤ f ∧ f ≤ 10000)
def bOk (b : S95) : Bool := boxOk b.f0 b.f1 b.f2 b.f3 b.f4 b.f5
theorem l1In_eq (a b c : Int) : spec_l1In.f a b c = some (decide (b ≤ a ∧ a ≤ c)) := by
 unfold spec_l1In.f
 grind
theorem in_eq (a b c : Int) : impl_in.f a b c = some (decide (b ≤ a ∧ a ≤ c)) := by
 unfold impl_in.f
 grind
theorem spec_box (a b c d e f : Int) : spec_ProbeBoxOk.f a b c d e f = some (boxOk a b c d e f) := by
 simp only [spec_ProbeBoxOk.f, l1In_eq, Option.bind_some, decide_eq_true_eq, boxOk]
 grind
theorem impl_box (a b c d e f : Int) : impl_ProbeBoxOk.f a b c d e f = some (boxOk a b c d e f) := by
 simp only [impl_ProbeBoxOk.f, in_eq, Option.bind_some, decide_eq_true_eq, boxOk]
 grind

/-- When two boxes come too near first. -/
def near (a b c d e f a' b' c' d' e' f' : Int) : Int × Bool :=
 if a - a' ≤ 1 ∧ a' - a ≤ 1 ∧ b - b' ≤ 1 ∧ b' - b ≤ 1 ∧ c ≤ d' ∧ c' ≤ d ∧ e ≤ f' ∧ e' ≤ f then (mx e e', true) else (0, false)
def bNear (x y : S95) : Int × Bool := near x.f0 x.f1 x.f2 x.f3 x.f4 x.f5 y.f0 y.f1 y.f2 y.f3 y.f4 y.f5
theorem ok_bounds {a b c d e f : Int} (h : boxOk a b c d e f = true) : 0 ≤ a ∧ a ≤ 15 ∧ 0 ≤ b ∧ b ≤ 15 ∧ 0 ≤ c ∧ c ≤ d ∧ d ≤ 6 ∧ 0 ≤ e ∧ e ≤ f ∧ f ≤ 10000 := by
 simpa [boxOk] using h
theorem wdiff {a b : Int} (h0 : 0 ≤ a) (h1 : a ≤ 15) (h2 : 0 ≤ b) (h3 : b ≤ 15) : wrap64 (a - b) = a - b := by
 unfold wrap64
 omega
theorem spec_l1c {a b c d e f a' b' c' d' e' f' : Int} (h : boxOk a b c d e f = true) (h' : boxOk a' b' c' d' e' f' = true) : Ev (fun k => spec_l1Close.f k a b c d e f a' b' c' d' e' f') (near a b c d e f a' b' c' d' e' f') := by
 obtain ⟨h0, h1, h2, h3, h4, h5, h6, h7, h8, h9⟩ := ok_bounds h
 obtain ⟨k0, k1, k2, k3, k4, k5, k6, k7, k8, k9⟩ := ok_bounds h'
 refine ⟨1, fun k hk => ?_⟩
 obtain ⟨k, rfl⟩ : ∃ m, k = m + 1 := ⟨k - 1, by omega⟩
 simp only [spec_l1Close.f, l1In_eq, wdiff h0 h1 k0 k1, wdiff h2 h3 k2 k3, Option.bind_some, decide_eq_true_eq, spec_l1Close.j0, near, mx]
 grind
theorem spec_close (a b c d e f a' b' c' d' e' f' : Int) : Ev (fun k => spec_ProbeClose.f k a b c d e f a' b' c' d' e' f') (if boxOk a b c d e f = true ∧ boxOk a' b' c' d' e' f' = true then near a b c d e f a' b' c' d' e' f' else (0, false)) := by
 by_cases h : boxOk a b c d e f = true
 ·by_cases h' : boxOk a' b' c' d' e' f' = true
  ·obtain ⟨K, hK⟩ := spec_l1c h h'
   refine ⟨K, fun k hk => ?_⟩
   simp [spec_ProbeClose.f, spec_box, h, h', hK k hk]
  ·refine ⟨0, fun k _ => ?_⟩
   rw [if_neg (fun x => h' x.2)]
   simp only [spec_ProbeClose.f, spec_box, h, h', Option.bind_some, if_true, Bool.false_eq_true, if_false]
 ·refine ⟨0, fun k _ => ?_⟩
  rw [if_neg (fun x => h x.1)]
  simp only [spec_ProbeClose.f, spec_box, h, Option.bind_some, Bool.false_eq_true, if_false]
theorem impl_close (a b c d e f a' b' c' d' e' f' : Int) : Ev (fun k => impl_ProbeClose.f k a b c d e f a' b' c' d' e' f') (if boxOk a b c d e f = true ∧ boxOk a' b' c' d' e' f' = true then near a b c d e f a' b' c' d' e' f' else (0, false)) := by
 refine ⟨1, fun k hk => ?_⟩
 obtain ⟨k, rfl⟩ : ∃ m, k = m + 1 := ⟨k - 1, by omega⟩
 by_cases h : boxOk a b c d e f = true
 ·by_cases h' : boxOk a' b' c' d' e' f' = true
  ·obtain ⟨h0, h1, h2, h3, h4, h5, h6, h7, h8, h9⟩ := ok_bounds h
   obtain ⟨k0, k1, k2, k3, k4, k5, k6, k7, k8, k9⟩ := ok_bounds h'
   rw [if_pos ⟨h, h'⟩]
   simp only [impl_ProbeClose.f, impl_box, h, h', in_eq, wdiff h0 h1 k0 k1, wdiff h2 h3 k2 k3, Option.bind_some, decide_eq_true_eq, impl_ProbeClose.j0, near, mx, mn]
   grind
  ·rw [if_neg (fun x => h' x.2)]
   simp only [impl_ProbeClose.f, impl_box, h, h', Option.bind_some, if_true, Bool.false_eq_true, if_false, impl_ProbeClose.j0]
 ·rw [if_neg (fun x => h x.1)]
  simp only [impl_ProbeClose.f, impl_box, h, Option.bind_some, Bool.false_eq_true, if_false, impl_ProbeClose.j0, if_true]

/-! ### Names, tubes -/
def ChOk (c : Int) : Prop := (97 ≤ c ∧ c ≤ 122) ∨ (48 ≤ c ∧ c ≤ 57) ∨ c = 45
instance (c : Int) : Decidable (ChOk c) := by unfold ChOk; infer_instance
def nameFrom (s : ByteArray) (i : Nat) : Bool := decide (∀ j, j < s.size → i ≤ j → ChOk (bt s (j : Int)))
def nameOk (s : ByteArray) : Bool := decide (1 ≤ s.size ∧ s.size ≤ 8) && nameFrom s 0
def tubeOk (s : ByteArray) (l : List S95) : Bool := nameOk s && decide (l.length ≤ 40) && l.all bOk
theorem nameFrom_end (s : ByteArray) {i : Nat} (h : s.size ≤ i) : nameFrom s i = true := by
 simp only [nameFrom, decide_eq_true_eq]
 intro j h1 h2
 omega
theorem nameFrom_yes {s : ByteArray} {i : Nat} (hc : ChOk (bt s (i : Int))) : nameFrom s i = nameFrom s (i + 1) := by
 rw [Bool.eq_iff_iff]
 simp only [nameFrom, decide_eq_true_eq]
 constructor
 ·intro h j h1 h2
  exact h j h1 (by omega)
 ·intro h j h1 h2
  by_cases e : j = i
  ·subst e; exact hc
  ·exact h j h1 (by omega)
theorem nameFrom_no {s : ByteArray} {i : Nat} (h : i < s.size) (hc : ¬ ChOk (bt s (i : Int))) : nameFrom s i = false := by
 simp only [nameFrom, decide_eq_false_iff_not]
 intro hh
 exact hc (hh i h (Nat.le_refl _))
/-- The test of a byte, as both texts print it. -/
theorem ch_if {α : Type} {c : Int} {A B : α} : (if c ≥ 97 then (if c ≤ 122 then A else (if c ≥ 48 then (if c ≤ 57 then A else (if c = 45 then A else B)) else (if c = 45 then A else B))) else (if c ≥ 48 then (if c ≤ 57 then A else (if c = 45 then A else B)) else (if c = 45 then A else B))) = if ChOk c then A else B := by
 unfold ChOk
 grind
theorem spec_name_l (s : ByteArray) (hs : s.size ≤ 9223372036854775807) (d : Nat) : ∀ i : Nat, i ≤ s.size → s.size - i = d → Ev (fun k => spec_l2NameOk.l0 k s (i : Int)) (nameFrom s i) := by
 induction d with
 | zero =>
  intro i hi hd
  refine Ev.step (f := fun _ => some true) (fun k => ?_) (Ev.is (by rw [nameFrom_end s (by omega)]))
  simp only [spec_l2NameOk.l0]
  rw [if_neg (by omega)]
 | succ d ih =>
  intro i hi hd
  have hlt : i < s.size := by omega
  by_cases hc : ChOk (bt s (i : Int))
  ·refine Ev.step (f := fun k => spec_l2NameOk.l0 k s ((i + 1 : Nat) : Int)) (fun k => ?_) (by rw [nameFrom_yes hc]; exact ih (i + 1) (by omega) (by omega))
   simp only [spec_l2NameOk.l0]
   rw [if_pos (by omega), if_pos (by omega), ch_if, if_pos hc, w64 hlt hs]
  ·refine Ev.step (f := fun _ => some false) (fun k => ?_) (Ev.is (by rw [nameFrom_no hlt hc]))
   simp only [spec_l2NameOk.l0]
   rw [if_pos (by omega), if_pos (by omega), ch_if, if_neg hc]
theorem spec_name (s : ByteArray) : Ev (fun k => spec_l2NameOk.f k s) (nameOk s) := by
 by_cases h : 1 ≤ s.size ∧ s.size ≤ 8
 ·refine Ev.congr (f := fun k => spec_l2NameOk.l0 k s ((0 : Nat) : Int)) (fun k => ?_) (Ev.eq (spec_name_l s (by omega) s.size 0 (by omega) (by omega)) ?_)
  ·simp only [spec_l2NameOk.f, l1In_eq, Option.bind_some, decide_eq_true_eq]
   rw [if_pos (by omega)]
   rfl
  ·simp [nameOk, h]
 ·refine Ev.is ?_ |>.congr (fun k => ?_) (f := fun _ => some (nameOk s))
  ·rfl
  ·simp only [spec_l2NameOk.f, l1In_eq, Option.bind_some, decide_eq_true_eq]
   rw [if_neg (by omega)]
   simp [nameOk, h]
theorem rd26 {l : List S95} {i : Nat} (h : i < l.length) : rd_T95 l (i : Int) = l[i] := by
 unfold rd_T95
 simp [h]
theorem spec_tube_l (s : ByteArray) (l : List S95) (hl : l.length ≤ 9223372036854775807) : ∀ i : Nat, i ≤ l.length → Ev (fun k => spec_ProbeTubeOk.l0 k (i : Int) s l) ((l.drop i).all bOk) :=
 drop_ind l (P := fun i r => Ev (fun k => spec_ProbeTubeOk.l0 k (i : Int) s l) (r.all bOk))
  (Ev.step (f := fun _ => some true) (fun k => by simp only [spec_ProbeTubeOk.l0]; rw [if_neg (by omega)]) (Ev.is rfl))
  (fun i hi ih => by
   by_cases hb : bOk l[i] = true
   ·refine Ev.step (f := fun k => spec_ProbeTubeOk.l0 k ((i + 1 : Nat) : Int) s l) (fun k => ?_) (Ev.eq ih (all_yes hb))
    simp only [spec_ProbeTubeOk.l0]
    rw [if_pos (by omega), if_pos (by omega), rd26 hi, spec_box, show boxOk l[i].f0 l[i].f1 l[i].f2 l[i].f3 l[i].f4 l[i].f5 = true from hb]
    simp only [Option.bind_some, if_true]
    rw [w64 hi hl]
   ·refine Ev.step (f := fun _ => some false) (fun k => ?_) (Ev.is (congrArg some (all_no hb)))
    simp only [spec_ProbeTubeOk.l0]
    rw [if_pos (by omega), if_pos (by omega), rd26 hi, spec_box, show boxOk l[i].f0 l[i].f1 l[i].f2 l[i].f3 l[i].f4 l[i].f5 = false from Bool.eq_false_iff.2 hb]
    simp)
theorem spec_tube (s : ByteArray) (l : List S95) : Ev (fun k => spec_ProbeTubeOk.f k s l) (tubeOk s l) := by
 unfold spec_ProbeTubeOk.f
 refine Ev.bind (spec_name s) ?_
 by_cases hn : nameOk s = true
 ·refine Ev.pos hn ?_
  by_cases hl : l.length ≤ 40
  ·refine Ev.step (f := fun k => spec_ProbeTubeOk.l0 k ((0 : Nat) : Int) s l) (fun k => ?_) (Ev.eq (spec_tube_l s l (by omega) 0 (by omega)) (by simp [tubeOk, hn, hl]))
   simp only [spec_ProbeTubeOk.j0]
   rw [if_neg (by simp; omega)]
   rfl
  ·refine Ev.step (f := fun _ => some false) (fun k => ?_) (Ev.is (by simp [tubeOk, hl]))
   simp only [spec_ProbeTubeOk.j0]
   rw [if_pos (by simp; omega)]
 ·refine Ev.neg hn (Ev.step (f := fun _ => some false) (fun k => ?_) (Ev.is (by simp [tubeOk, hn])))
  simp [spec_ProbeTubeOk.j0]
theorem impl_tube_l1 (l : List S95) (hl : l.length ≤ 9223372036854775807) : ∀ i : Nat, i ≤ l.length → Ev (fun k => impl_ProbeTubeOk.l1 k l (l.length : Int) (i : Int)) ((l.drop i).all bOk) :=
 drop_ind l (P := fun i r => Ev (fun k => impl_ProbeTubeOk.l1 k l (l.length : Int) (i : Int)) (r.all bOk))
  (Ev.step (f := fun _ => some true) (fun k => by simp only [impl_ProbeTubeOk.l1]; rw [if_neg (by omega)]) (Ev.is rfl))
  (fun i hi ih => by
   by_cases hb : bOk l[i] = true
   ·refine Ev.step (f := fun k => impl_ProbeTubeOk.l1 k l (l.length : Int) ((i + 1 : Nat) : Int)) (fun k => ?_) (Ev.eq ih (all_yes hb))
    simp only [impl_ProbeTubeOk.l1]
    rw [if_pos (by omega), if_pos (by omega), if_pos (by omega), rd26 hi, impl_box, show boxOk l[i].f0 l[i].f1 l[i].f2 l[i].f3 l[i].f4 l[i].f5 = true from hb]
    simp only [Option.bind_some, if_true]
    rw [w64 hi hl]
   ·refine Ev.step (f := fun _ => some false) (fun k => ?_) (Ev.is (congrArg some (all_no hb)))
    simp only [impl_ProbeTubeOk.l1]
    rw [if_pos (by omega), if_pos (by omega), if_pos (by omega), rd26 hi, impl_box, show boxOk l[i].f0 l[i].f1 l[i].f2 l[i].f3 l[i].f4 l[i].f5 = false from Bool.eq_false_iff.2 hb]
    simp)
theorem impl_tube_l0 (s : ByteArray) (l : List S95) (hs : s.size ≤ 9223372036854775807) (hl : l.length ≤ 9223372036854775807) (d : Nat) : ∀ i : Nat, i ≤ s.size → s.size - i = d → Ev (fun k => impl_ProbeTubeOk.l0 k (i : Int) s l) (nameFrom s i && l.all bOk) := by
 induction d with
 | zero =>
  intro i hi hd
  refine Ev.step (f := fun k => impl_ProbeTubeOk.l1 k l (l.length : Int) ((0 : Nat) : Int)) (fun k => ?_) (Ev.eq (impl_tube_l1 l hl 0 (by omega)) (by rw [nameFrom_end s (by omega)]; simp))
  simp only [impl_ProbeTubeOk.l0]
  rw [if_neg (by omega)]
  rfl
 | succ d ih =>
  intro i hi hd
  have hlt : i < s.size := by omega
  by_cases hc : ChOk (bt s (i : Int))
  ·refine Ev.step (f := fun k => impl_ProbeTubeOk.l0 k ((i + 1 : Nat) : Int) s l) (fun k => ?_) (by rw [nameFrom_yes hc]; exact ih (i + 1) (by omega) (by omega))
   simp only [impl_ProbeTubeOk.l0]
   rw [if_pos (by omega), if_pos (by omega), ch_if, if_pos hc, w64 hlt hs]
  ·refine Ev.step (f := fun _ => some false) (fun k => ?_) (Ev.is (by rw [nameFrom_no hlt hc]; rfl))
   simp only [impl_ProbeTubeOk.l0]
   rw [if_pos (by omega), if_pos (by omega), ch_if, if_neg hc]
theorem impl_tube (s : ByteArray) (l : List S95) : Ev (fun k => impl_ProbeTubeOk.f k s l) (tubeOk s l) := by
 unfold impl_ProbeTubeOk.f
 simp only [in_eq, Option.bind_some, decide_eq_true_eq]
 by_cases hn : 1 ≤ s.size ∧ s.size ≤ 8
 ·refine Ev.pos (by omega) ?_
  by_cases hl : l.length ≤ 40
  ·refine Ev.step (f := fun k => impl_ProbeTubeOk.l0 k ((0 : Nat) : Int) s l) (fun k => ?_) (Ev.eq (impl_tube_l0 s l (by omega) (by omega) s.size 0 (by omega) (by omega)) (by simp [tubeOk, nameOk, hn, hl]))
   simp only [impl_ProbeTubeOk.j0]
   rw [if_neg (by simp; omega)]
   rfl
  ·refine Ev.step (f := fun _ => some false) (fun k => ?_) (Ev.is (by simp [tubeOk, hl]))
   simp only [impl_ProbeTubeOk.j0]
   rw [if_pos (by simp; omega)]
 ·refine Ev.neg (by omega) (Ev.step (f := fun _ => some false) (fun k => ?_) (Ev.is (by simp [tubeOk, nameOk, hn])))
  simp [impl_ProbeTubeOk.j0]
end Go.Proofs.Ytdbomnhdpniigaa.Q
end
section
namespace Go.Proofs.Ytdbomnhdpniigaa.Q
open Go.RowKit Go.Proofs.Ytdbomnhdpniigaa.PA Go.Proofs.YtdbomnhdpniigaaW.PrintWords Go.Proofs.YtdbomnhdpniigaaW.PrintLast Go.Proofs.YtdbomnhdpniigaaW.PrintMore

theorem len_of_tube {s : ByteArray} {l : List S95} (h : tubeOk s l = true) : l.length ≤ 40 ∧ l.all bOk = true := by
 simp only [tubeOk, Bool.and_eq_true, decide_eq_true_eq] at h
 exact ⟨h.1.2, h.2⟩
theorem size_of_tube {s : ByteArray} {l : List S95} (h : tubeOk s l = true) : 1 ≤ s.size ∧ s.size ≤ 8 := by
 simp only [tubeOk, nameOk, Bool.and_eq_true, decide_eq_true_eq] at h
 exact h.1.1.1
/-! ### Meet: the best so far is a tick and two places -/
abbrev St := Option (Int × Int × Int)
abbrev Cl := ByteArray × ByteArray × Int × Int × Int × Bool
def sA (s : ByteArray) : St → ByteArray | none => ⟨#[]⟩ | some _ => s
def sT : St → Int | none => 0 | some t => t.1
def sI : St → Int | none => 0 | some t => t.2.1
def sJ : St → Int | none => 0 | some t => t.2.2
def enc (s s' : ByteArray) (st : St) : Cl := (sA s st, sA s' st, sT st, sI st, sJ st, st.isSome)
def better (st : St) (x y : S95) (i j : Int) : St := if (bNear x y).2 = true then (match st with | none => some ((bNear x y).1, i, j) | some t => if (bNear x y).1 < t.1 then some ((bNear x y).1, i, j) else some t) else st
def meetRow (x : S95) (i : Int) : List S95 → Nat → St → St
 | [], _, st => st
 | y :: r, j, st => meetRow x i r (j + 1) (better st x y i j)
def meetAll (l' : List S95) : List S95 → Nat → St → St
 | [], _, st => st
 | x :: r, i, st => meetAll l' r (i + 1) (meetRow x i l' 0 st)
def meetSt (l l' : List S95) : St := meetAll l' l 0 none
def meet (s : ByteArray) (l : List S95) (s' : ByteArray) (l' : List S95) : Cl := if tubeOk s l = true ∧ tubeOk s' l' = true then enc s s' (meetSt l l') else enc s s' none
theorem bOk_of {l : List S95} (h : l.all bOk = true) {i : Nat} (hi : i < l.length) : bOk l[i] = true := List.all_eq_true.1 h _ (List.getElem_mem hi)
theorem impl_close_ok {x y : S95} (h : bOk x = true) (h' : bOk y = true) : Ev (fun k => impl_ProbeClose.f k x.f0 x.f1 x.f2 x.f3 x.f4 x.f5 y.f0 y.f1 y.f2 y.f3 y.f4 y.f5) (bNear x y) :=
 Ev.eq (impl_close _ _ _ _ _ _ _ _ _ _ _ _) (by rw [if_pos ⟨h, h'⟩]; rfl)
end Go.Proofs.Ytdbomnhdpniigaa.Q
end
section
namespace Go.Proofs.Ytdbomnhdpniigaa.Q
open Go.RowKit Go.Proofs.Ytdbomnhdpniigaa.PA Go.Proofs.YtdbomnhdpniigaaW.PrintWords Go.Proofs.YtdbomnhdpniigaaW.PrintLast Go.Proofs.YtdbomnhdpniigaaW.PrintMore

/-! ### Within -/
def cover (b a : S95) : Bool := decide (a.f0 = b.f0 ∧ a.f1 = b.f1 ∧ b.f2 ≤ a.f2 ∧ a.f3 ≤ b.f3 ∧ b.f4 ≤ a.f4 ∧ a.f5 ≤ b.f5)
def smaller (s : ByteArray) (l : List S95) (s' : ByteArray) (l' : List S95) : Bool := tubeOk s l && tubeOk s' l' && l.all fun a => l'.any fun b => cover b a
end Go.Proofs.Ytdbomnhdpniigaa.Q
end
section
namespace Go.Proofs.Ytdbomnhdpniigaa.Q
open Go.RowKit Go.Proofs.Ytdbomnhdpniigaa.PA Go.Proofs.YtdbomnhdpniigaaW.PrintWords Go.Proofs.YtdbomnhdpniigaaW.PrintLast Go.Proofs.YtdbomnhdpniigaaW.PrintMore

/-! ### Copies, sizes, comparisons -/
def cv (x : S121) : S95 := ⟨x.f0, x.f1, x.f2, x.f3, x.f4, x.f5⟩
theorem to_boxes_l (l : List S121) (hl : l.length ≤ 5864062014805) : ∀ i : Nat, i ≤ l.length → Ev (fun k => laws_toProbeBoxS.l0 k l ((l.take i).map cv ++ List.replicate (l.length - i) z95) (i : Int)) (l.map cv) :=
  drop_ind l (P := fun i _ => Ev (fun k => laws_toProbeBoxS.l0 k l ((l.take i).map cv ++ List.replicate (l.length - i) z95) (i : Int)) (l.map cv))
    (Ev.step (f := fun _ => some (l.map cv)) (fun k => by simp only [laws_toProbeBoxS.l0]; rw [if_neg (by omega)]; simp) (Ev.is rfl))
    (fun i hi ih => by
      refine Ev.step (f := fun k => laws_toProbeBoxS.l0 k l ((l.take (i + 1)).map cv ++ List.replicate (l.length - (i + 1)) z95) ((i + 1 : Nat) : Int)) (fun k => ?_) ih
      have hr : rd_T121 l (i : Int) = l[i] := by unfold rd_T121; simp [hi]
      simp only [laws_toProbeBoxS.l0]
      rw [if_pos (by omega), if_pos (by omega), hr]
      simp only [laws_toProbeBox.f, Option.bind_some]
      rw [if_pos (by simp; omega), w64 hi (by omega)]
      congr 1
      have e : l.length - i = (l.length - (i + 1)) + 1 := by omega
      rw [e, List.replicate_succ, List.take_succ_eq_append_getElem hi, List.map_append, List.set_append_right _ _ (by simp; omega)]
      have e2 : (i : Int).toNat - ((l.take i).map cv).length = 0 := by simp; omega
      rw [e2, List.set_cons_zero, List.append_assoc]
      rfl)
theorem to_boxes (l : List S121) (hl : l.length ≤ 1048576) : Ev (fun k => laws_toProbeBoxS.f k l) (l.map cv) := by
  refine Ev.congr (f := fun k => laws_toProbeBoxS.l0 k l ((l.take 0).map cv ++ List.replicate (l.length - 0) z95) ((0 : Nat) : Int)) (fun k => ?_) (to_boxes_l l (by omega) 0 (by omega))
  simp only [laws_toProbeBoxS.f]
  rw [if_pos (by omega), if_pos (by omega)]
  simp
theorem to_tube (s : ByteArray) (l : List S121) (hl : l.length ≤ 1048576) : Ev (fun k => laws_toProbeTube.f k s l) (s, l.map cv) := by
  unfold laws_toProbeTube.f
  exact Ev.bind (to_boxes l hl) (Ev.now _)
theorem eq_box (x : S95) : laws_eqProbeBox.f x.f0 x.f1 x.f2 x.f3 x.f4 x.f5 x.f0 x.f1 x.f2 x.f3 x.f4 x.f5 = some true := by simp [laws_eqProbeBox.f]
theorem eq_boxes_l (l : List S95) (hl : l.length ≤ 9223372036854775807) : ∀ i : Nat, i ≤ l.length → Ev (fun k => laws_eqProbeBoxS.l0 k l l (i : Int)) true :=
  drop_ind l (P := fun i _ => Ev (fun k => laws_eqProbeBoxS.l0 k l l (i : Int)) true)
    (Ev.step (f := fun _ => some true) (fun k => by simp only [laws_eqProbeBoxS.l0]; rw [if_neg (by omega)]) (Ev.is rfl))
    (fun i hi ih => by
      refine Ev.step (f := fun k => laws_eqProbeBoxS.l0 k l l ((i + 1 : Nat) : Int)) (fun k => ?_) ih
      simp only [laws_eqProbeBoxS.l0]
      rw [if_pos (by omega), if_pos (by omega), if_pos (by omega), rd26 hi, eq_box, w64 hi hl]
      simp)
theorem eq_boxes (l : List S95) (hl : l.length ≤ 9223372036854775807) : Ev (fun k => laws_eqProbeBoxS.f k l l) true := by
  unfold laws_eqProbeBoxS.f
  exact Ev.pos rfl (eq_boxes_l l hl 0 (by omega))
theorem eq_tube (s : ByteArray) (l : List S95) (hl : l.length ≤ 9223372036854775807) : Ev (fun k => laws_eqProbeTube.f k s l s l) true := by
  unfold laws_eqProbeTube.f
  exact Ev.pos rfl (Ev.bind (eq_boxes l hl) (Ev.pos rfl (Ev.now true)))
theorem sz_boxes {l : List S121} {n : Int} (h0 : 0 ≤ n) (h1 : n ≤ 1048576) (hl : l.length ≤ maxLen) : (laws_szProbeBoxS.f l n = some (-1) ∧ n < l.length) ∨ (laws_szProbeBoxS.f l n = some (n - l.length) ∧ 0 ≤ n - l.length) := by
  unfold maxLen at hl
  unfold laws_szProbeBoxS.f
  rw [wsub h0 h1 (by omega) (by omega)]
  by_cases h : n - (l.length : Int) < 0
  · exact .inl ⟨by rw [if_pos h], by omega⟩
  · exact .inr ⟨by rw [if_neg h], by omega⟩
theorem sz_tube {s : ByteArray} {l : List S121} {n : Int} (h0 : 0 ≤ n) (h1 : n ≤ 1048576) (hs : s.size ≤ maxLen) (hl : l.length ≤ maxLen) : laws_szProbeTube.f s l n = some (-1) ∨ (laws_szProbeTube.f s l n = some (n - s.size - l.length) ∧ 0 ≤ n - s.size - l.length) := by
  unfold maxLen at hs
  unfold laws_szProbeTube.f
  rw [wsub h0 h1 (by omega) (by omega)]
  by_cases h : n - (s.size : Int) < 0
  · exact .inl (by rw [if_pos h])
  · rw [if_neg h]
    rcases sz_boxes (l := l) (n := n - (s.size : Int)) (by omega) (by omega) hl with ⟨h2, _⟩ | ⟨h2, h3⟩
    · rw [h2]; exact .inl rfl
    · rw [h2]
      refine .inr ⟨?_, h3⟩
      simp only [Option.bind_some]
      rw [if_neg (by omega)]
/-! ### Sky -/
def lt (s t : ByteArray) : Bool := Op.bytesLess s.toList t.toList
theorem wpred {i n : Nat} (h : i < n) (hn : n ≤ 9223372036854775807) : wrap64 ((i : Int) - 1) = (i : Int) - 1 := by
  unfold wrap64
  omega
end Go.Proofs.Ytdbomnhdpniigaa.Q
end
section
namespace Go.Proofs.Ytdbomnhdpniigaa.Q
open Go.RowKit Go.Proofs.Ytdbomnhdpniigaa.PA Go.Proofs.YtdbomnhdpniigaaW.PrintWords Go.Proofs.YtdbomnhdpniigaaW.PrintLast Go.Proofs.YtdbomnhdpniigaaW.PrintMore

/-! ### Cut -/
def cutB (fr : Int) (b : S95) : S95 := ⟨b.f0, b.f1, b.f2, b.f3, mx b.f4 fr, b.f5⟩
def cutL (fr : Int) (l : List S95) : List S95 := (l.filter fun b => decide (fr ≤ b.f5)).map (cutB fr)
def cut (s : ByteArray) (l : List S95) (fr : Int) : ByteArray × List S95 := if tubeOk s l = true then (s, cutL fr l) else (⟨#[]⟩, [])
theorem cutL_yes {fr : Int} {b : S95} (r : List S95) (h : fr ≤ b.f5) : cutL fr (b :: r) = cutB fr b :: cutL fr r := by simp [cutL, h]
theorem cutL_no {fr : Int} {b : S95} (r : List S95) (h : ¬ fr ≤ b.f5) : cutL fr (b :: r) = cutL fr r := by simp [cutL, h]
theorem cutL_len (fr : Int) (l : List S95) : (cutL fr l).length ≤ l.length := by
  simp only [cutL, List.length_map]
  exact List.length_filter_le _ _
theorem cut_len (s : ByteArray) (l : List S95) (fr : Int) : (cut s l fr).2.length ≤ 40 := by
  unfold cut
  split
  · rename_i h
    exact Nat.le_trans (cutL_len fr l) (len_of_tube h).1
  · simp

/-! ### Marks -/
def markL : List S95 → Int → List S95
  | [], _ => []
  | _ :: r, k => ⟨k, k + 1, k + 1 + 1, k + 1 + 1 + 1, k + 1 + 1 + 1 + 1, k + 1 + 1 + 1 + 1 + 1⟩ :: markL r (k + 6)
theorem markL_len : ∀ (l : List S95) (k : Int), (markL l k).length = l.length
  | [], _ => rfl
  | _ :: r, k => by simp [markL, markL_len r]
theorem w1 {k : Int} (h0 : 0 ≤ k) (h : k ≤ 1000000000000000) : wrap64 (k + 1) = k + 1 := by
  unfold wrap64
  omega
theorem rd_set {l : List S95} {i : Nat} (h : i < l.length) (v : S95) : rd_T95 (l.set i v) (i : Int) = v := by
  unfold rd_T95
  simp [h]
theorem mark_l : ∀ (r : List S95) (pre : List S95) (K : Int), 0 ≤ K → K + 6 * r.length ≤ 100000000000000 → pre.length + r.length ≤ 100000000 →
    Ev (fun k => laws_markProbeBoxS.l0 k (pre ++ r) K (pre.length : Int)) (K + 6 * r.length, pre ++ markL r K)
  | [], pre, K, _, _, _ => by
    refine Ev.step (f := fun _ => some (K, pre ++ [])) (fun k => ?_) (Ev.is (by simp [markL]))
    simp only [laws_markProbeBoxS.l0]
    rw [if_neg (by simp)]
  | x :: r, pre, K, h0, h1, h2 => by
    simp only [List.length_cons] at h1 h2
    have ih := mark_l r (pre ++ [⟨K, K + 1, K + 1 + 1, K + 1 + 1 + 1, K + 1 + 1 + 1 + 1, K + 1 + 1 + 1 + 1 + 1⟩]) (K + 6) (by omega) (by omega) (by simp; omega)
    refine Ev.step (f := fun k => laws_markProbeBoxS.l0 k ((pre ++ [⟨K, K + 1, K + 1 + 1, K + 1 + 1 + 1, K + 1 + 1 + 1 + 1, K + 1 + 1 + 1 + 1 + 1⟩]) ++ r) (K + 6) (((pre ++ [(⟨K, K + 1, K + 1 + 1, K + 1 + 1 + 1, K + 1 + 1 + 1 + 1, K + 1 + 1 + 1 + 1 + 1⟩ : S95)]).length : Nat) : Int)) (fun k => ?_) (Ev.eq ih ?_)
    · have hp : pre.length < (pre ++ x :: r).length := by simp
      simp only [laws_markProbeBoxS.l0]
      rw [if_pos (by simp; omega), if_pos (by omega)]
      simp only [Option.bind_some, Int.toNat_natCast]
      rw [w1 (k := K) (by omega) (by omega), w1 (k := K + 1) (by omega) (by omega), w1 (k := K + 1 + 1) (by omega) (by omega), w1 (k := K + 1 + 1 + 1) (by omega) (by omega), w1 (k := K + 1 + 1 + 1 + 1) (by omega) (by omega), w1 (k := K + 1 + 1 + 1 + 1 + 1) (by omega) (by omega)]
      simp only [rd_set hp, List.set_set]
      congr 1
      · rw [List.set_append_right _ _ (Nat.le_refl _), Nat.sub_self, List.set_cons_zero, List.append_assoc]
        rfl
      · omega
      · rw [w64 (n := 100000000) (by omega) (by omega)]
        simp
    · simp only [List.length_cons, markL, List.append_assoc, List.cons_append, List.nil_append, Prod.mk.injEq]
      exact ⟨by omega, trivial⟩
theorem mark_boxes (l : List S95) (hl : l.length ≤ 10000000) {K : Int} (h0 : 0 ≤ K) (h1 : K + 6 * l.length ≤ 100000000000000) : Ev (fun k => laws_markProbeBoxS.f k l K) (K + 6 * l.length, markL l K) := by
  unfold laws_markProbeBoxS.f
  exact mark_l l [] K h0 h1 (by simp; omega)
theorem mark_tube (s : ByteArray) (l : List S95) (hl : l.length ≤ 10000000) {K : Int} (h0 : 0 ≤ K) (h1 : K + 6 * l.length ≤ 100000000000000) : Ev (fun k => laws_markProbeTube.f k s l K) (K + 6 * l.length, markL l K) := by
  unfold laws_markProbeTube.f
  exact Ev.bind (mark_boxes l hl h0 h1) (Ev.now _)
/-! ### With, free -/
def mkC (c : Cl) : S49 := ⟨c.1, c.2.1, c.2.2.1, c.2.2.2.1, c.2.2.2.2.1⟩
end Go.Proofs.Ytdbomnhdpniigaa.Q
end
