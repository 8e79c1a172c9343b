/- What the draws pick, and how great it may be: numbers of the reader, texts n times, decimals. No condition beside what is typed. -/
import Derived.Test.YtjelgpmhbaiipaaGreatDoorLPAd6
import Derived.Test.YtjelgpmhbaiipaaGreatDoorLZLb5
import Derived.Lib.CountLaws
import Derived.Lib.IndexBytes
import Derived.Lib.Atoi
import Derived.Lib.ItoaNum
import Derived.Test.YtjelgpmhbaiipaaGreatDoorLS19
import Derived.Lib.Join
import Derived.Test.YtjelgpmhbaiipaaGreatDoorLS23
import Derived.Test.YtjelgpmhbaiipaaGreatDoorLS13
import Derived.Test.YtjelgpmhbaiipaaGreatDoorLS27
import Derived.Test.YtjelgpmhbaiipaaGreatDoorLS17
section
section
namespace Go.Proofs.YtjelgpmhbaiipaaGreatDoor.Q
set_option linter.unusedVariables false
set_option linter.unusedSimpArgs false
open Go.RowKit Go.Proofs.YtjelgpmhbaiipaaGreatDoor.PA Go.Proofs.YtjelgpmhbaiipaaGreatDoorW.PrintWords Go.Proofs.YtjelgpmhbaiipaaGreatDoorW.PrintLast Go.Proofs.YtjelgpmhbaiipaaGreatDoorW.PrintMore
section
variable {α β : Type} {r : α}
theorem Ev.pos {c : Prop} [Decidable c] {A B : Nat → Option α} (h : c) (e : Ev A r) : Ev (fun k => if c then A k else B k) r := Ev.congr (fun _ => if_pos h) e
theorem Ev.neg {c : Prop} [Decidable c] {A B : Nat → Option α} (h : ¬ c) (e : Ev B r) : Ev (fun k => if c then A k else B k) r := Ev.congr (fun _ => if_neg h) e
theorem Ev.is {a : Option α} (h : a = some r) : Ev (fun _ => a) r := ⟨0, fun _ _ => h⟩
theorem Ev.eq {g : Nat → Option α} {r r' : α} (h : Ev g r) (e : r = r') : Ev g r' := e ▸ h
theorem drop_ind (l : List α) {P : Nat → List α → Prop} (h0 : P l.length []) (h1 : ∀ i (hi : i < l.length), P (i + 1) (l.drop (i + 1)) → P i (l[i] :: l.drop (i + 1))) : ∀ i, i ≤ l.length → P i (l.drop i) := by
 intro i hi
 induction hd : l.length - i generalizing i with
 | zero =>
  obtain rfl : i = l.length := by omega
  rw [List.drop_length]
  exact h0
 | succ d ih =>
  have hlt : i < l.length := by omega
  rw [List.drop_eq_getElem_cons hlt]
  exact h1 i hlt (ih (i + 1) (by omega) (by omega))
end
theorem all_yes {α : Type} {p : α → Bool} {a : α} {l : List α} (h : p a = true) : l.all p = (a :: l).all p := by rw [List.all_cons, h, Bool.true_and]
theorem all_no {α : Type} {p : α → Bool} {a : α} {l : List α} (h : ¬ p a = true) : (false : Bool) = (a :: l).all p := by rw [List.all_cons, Bool.eq_false_iff.2 h, Bool.false_and]
theorem w64 {i : Nat} {n : Nat} (h : i < n) (hn : n ≤ 9223372036854775807) : wrap64 ((i : Int) + 1) = ((i + 1 : Nat) : Int) := by
 unfold wrap64
 omega
def boxOk (a b c d e f : Int) : Bool := decide (0 ≤ a ∧ a ≤ 15 ∧ 0 ≤ b ∧ b ≤ 15 ∧ 0 ≤ c ∧ c ≤ d ∧ d ≤ 6 ∧ 0 ≤ e ∧ e ≤ f ∧ f ≤ 10000)
def bOk (b : S46) : Bool := boxOk b.f0 b.f1 b.f2 b.f3 b.f4 b.f5
theorem l1In_eq (a b c : Int) : spec_l1In.f a b c = some (decide (b ≤ a ∧ a ≤ c)) := by
 unfold spec_l1In.f
 grind
theorem in_eq (a b c : Int) : impl_in.f a b c = some (decide (b ≤ a ∧ a ≤ c)) := by
 unfold impl_in.f
 grind
theorem spec_box (a b c d e f : Int) : spec_ProbeBoxOk.f a b c d e f = some (boxOk a b c d e f) := by
 simp only [spec_ProbeBoxOk.f, l1In_eq, Option.bind_some, decide_eq_true_eq, boxOk]
 grind
theorem impl_box (a b c d e f : Int) : impl_ProbeBoxOk.f a b c d e f = some (boxOk a b c d e f) := by
 simp only [impl_ProbeBoxOk.f, in_eq, Option.bind_some, decide_eq_true_eq, boxOk]
 grind

def near (a b c d e f a' b' c' d' e' f' : Int) : Int × Bool :=
 if a - a' ≤ 1 ∧ a' - a ≤ 1 ∧ b - b' ≤ 1 ∧ b' - b ≤ 1 ∧ c ≤ d' ∧ c' ≤ d ∧ e ≤ f' ∧ e' ≤ f then (mx e e', true) else (0, false)
def bNear (x y : S46) : Int × Bool := near x.f0 x.f1 x.f2 x.f3 x.f4 x.f5 y.f0 y.f1 y.f2 y.f3 y.f4 y.f5
theorem ok_bounds {a b c d e f : Int} (h : boxOk a b c d e f = true) : 0 ≤ a ∧ a ≤ 15 ∧ 0 ≤ b ∧ b ≤ 15 ∧ 0 ≤ c ∧ c ≤ d ∧ d ≤ 6 ∧ 0 ≤ e ∧ e ≤ f ∧ f ≤ 10000 := by
 simpa [boxOk] using h
theorem wdiff {a b : Int} (h0 : 0 ≤ a) (h1 : a ≤ 15) (h2 : 0 ≤ b) (h3 : b ≤ 15) : wrap64 (a - b) = a - b := by
 unfold wrap64
 omega
theorem spec_l1c {a b c d e f a' b' c' d' e' f' : Int} (h : boxOk a b c d e f = true) (h' : boxOk a' b' c' d' e' f' = true) : Ev (fun k => spec_l1Close.f k a b c d e f a' b' c' d' e' f') (near a b c d e f a' b' c' d' e' f') := by
 obtain ⟨h0, h1, h2, h3, h4, h5, h6, h7, h8, h9⟩ := ok_bounds h
 obtain ⟨k0, k1, k2, k3, k4, k5, k6, k7, k8, k9⟩ := ok_bounds h'
 refine ⟨1, fun k hk => ?_⟩
 obtain ⟨k, rfl⟩ : ∃ m, k = m + 1 := ⟨k - 1, by omega⟩
 simp only [spec_l1Close.f, l1In_eq, wdiff h0 h1 k0 k1, wdiff h2 h3 k2 k3, Option.bind_some, decide_eq_true_eq, spec_l1Close.j0, near, mx]
 grind
theorem impl_close (a b c d e f a' b' c' d' e' f' : Int) : Ev (fun k => impl_ProbeClose.f k a b c d e f a' b' c' d' e' f') (if boxOk a b c d e f = true ∧ boxOk a' b' c' d' e' f' = true then near a b c d e f a' b' c' d' e' f' else (0, false)) := by
 refine ⟨1, fun k hk => ?_⟩
 obtain ⟨k, rfl⟩ : ∃ m, k = m + 1 := ⟨k - 1, by omega⟩
 by_cases h : boxOk a b c d e f = true
 ·by_cases h' : boxOk a' b' c' d' e' f' = true
  ·obtain ⟨h0, h1, h2, h3, h4, h5, h6, h7, h8, h9⟩ := ok_bounds h
   obtain ⟨k0, k1, k2, k3, k4, k5, k6, k7, k8, k9⟩ := ok_bounds h'
   rw [if_pos ⟨h, h'⟩]
   simp only [impl_ProbeClose.f, impl_box, h, h', in_eq, wdiff h0 h1 k0 k1, wdiff h2 h3 k2 k3, Option.bind_some, decide_eq_true_eq, impl_ProbeClose.j0, near, mx, mn]
   grind
  rw [if_neg (fun x => h' x.2)]
  simp only [impl_ProbeClose.f, impl_box, h, h', Option.bind_some, if_true, Bool.false_eq_true, if_false, impl_ProbeClose.j0]
 rw [if_neg (fun x => h x.1)]
 simp only [impl_ProbeClose.f, impl_box, h, Option.bind_some, Bool.false_eq_true, if_false, impl_ProbeClose.j0, if_true]

def ChOk (c : Int) : Prop := (97 ≤ c ∧ c ≤ 122) ∨ (48 ≤ c ∧ c ≤ 57) ∨ c = 45
instance (c : Int) : Decidable (ChOk c) := by unfold ChOk; infer_instance
def nameFrom (s : ByteArray) (i : Nat) : Bool := decide (∀ j, j < s.size → i ≤ j → ChOk (bt s (j : Int)))
def nameOk (s : ByteArray) : Bool := decide (1 ≤ s.size ∧ s.size ≤ 8) && nameFrom s 0
def tubeOk (s : ByteArray) (l : List S46) : Bool := nameOk s && decide (l.length ≤ 40) && l.all bOk
theorem nameFrom_end (s : ByteArray) {i : Nat} (h : s.size ≤ i) : nameFrom s i = true := by
 simp only [nameFrom, decide_eq_true_eq]
 intro j h1 h2
 omega
theorem nameFrom_yes {s : ByteArray} {i : Nat} (hc : ChOk (bt s (i : Int))) : nameFrom s i = nameFrom s (i + 1) := by
 rw [Bool.eq_iff_iff]
 simp only [nameFrom, decide_eq_true_eq]
 constructor
 ·intro h j h1 h2
  exact h j h1 (by omega)
 intro h j h1 h2
 by_cases e : j = i
 ·subst e; exact hc
 exact h j h1 (by omega)
theorem nameFrom_no {s : ByteArray} {i : Nat} (h : i < s.size) (hc : ¬ ChOk (bt s (i : Int))) : nameFrom s i = false := by
 simp only [nameFrom, decide_eq_false_iff_not]
 intro hh
 exact hc (hh i h (Nat.le_refl _))
theorem ch_if {α : Type} {c : Int} {A B : α} : (if c ≥ 97 then (if c ≤ 122 then A else (if c ≥ 48 then (if c ≤ 57 then A else (if c = 45 then A else B)) else (if c = 45 then A else B))) else (if c ≥ 48 then (if c ≤ 57 then A else (if c = 45 then A else B)) else (if c = 45 then A else B))) = if ChOk c then A else B := by
 unfold ChOk
 grind
theorem spec_name_l (s : ByteArray) (hs : s.size ≤ 9223372036854775807) (d : Nat) : ∀ i : Nat, i ≤ s.size → s.size - i = d → Ev (fun k => spec_l2NameOk.l0 k s (i : Int)) (nameFrom s i) := by
 induction d with
 | zero =>
  intro i hi hd
  refine Ev.step (f := fun _ => some true) (fun k => ?_) (Ev.is (by rw [nameFrom_end s (by omega)]))
  simp only [spec_l2NameOk.l0]
  rw [if_neg (by omega)]
 | succ d ih =>
  intro i hi hd
  have hlt : i < s.size := by omega
  by_cases hc : ChOk (bt s (i : Int))
  ·refine Ev.step (f := fun k => spec_l2NameOk.l0 k s ((i + 1 : Nat) : Int)) (fun k => ?_) (by rw [nameFrom_yes hc]; exact ih (i + 1) (by omega) (by omega))
   simp only [spec_l2NameOk.l0]
   rw [if_pos (by omega), if_pos (by omega), ch_if, if_pos hc, w64 hlt hs]
  refine Ev.step (f := fun _ => some false) (fun k => ?_) (Ev.is (by rw [nameFrom_no hlt hc]))
  simp only [spec_l2NameOk.l0]
  rw [if_pos (by omega), if_pos (by omega), ch_if, if_neg hc]
theorem spec_name (s : ByteArray) : Ev (fun k => spec_l2NameOk.f k s) (nameOk s) := by
 by_cases h : 1 ≤ s.size ∧ s.size ≤ 8
 ·refine Ev.congr (f := fun k => spec_l2NameOk.l0 k s ((0 : Nat) : Int)) (fun k => ?_) (Ev.eq (spec_name_l s (by omega) s.size 0 (by omega) (by omega)) ?_)
  ·simp only [spec_l2NameOk.f, l1In_eq, Option.bind_some, decide_eq_true_eq]
   rw [if_pos (by omega)]
   rfl
  simp [nameOk, h]
 refine Ev.is ?_ |>.congr (fun k => ?_) (f := fun _ => some (nameOk s))
 ·rfl
 simp only [spec_l2NameOk.f, l1In_eq, Option.bind_some, decide_eq_true_eq]
 rw [if_neg (by omega)]
 simp [nameOk, h]
theorem rd26 {l : List S46} {i : Nat} (h : i < l.length) : rd_T46 l (i : Int) = l[i] := by
 unfold rd_T46
 simp [h]
theorem spec_tube_l (s : ByteArray) (l : List S46) (hl : l.length ≤ 9223372036854775807) : ∀ i : Nat, i ≤ l.length → Ev (fun k => spec_ProbeTubeOk.l0 k (i : Int) s l) ((l.drop i).all bOk) :=
 drop_ind l (P := fun i r => Ev (fun k => spec_ProbeTubeOk.l0 k (i : Int) s l) (r.all bOk))
  (Ev.step (f := fun _ => some true) (fun k => by simp only [spec_ProbeTubeOk.l0]; rw [if_neg (by omega)]) (Ev.is rfl))
  (fun i hi ih => by
   by_cases hb : bOk l[i] = true
   ·refine Ev.step (f := fun k => spec_ProbeTubeOk.l0 k ((i + 1 : Nat) : Int) s l) (fun k => ?_) (Ev.eq ih (all_yes hb))
    simp only [spec_ProbeTubeOk.l0]
    rw [if_pos (by omega), if_pos (by omega), rd26 hi, spec_box, show boxOk l[i].f0 l[i].f1 l[i].f2 l[i].f3 l[i].f4 l[i].f5 = true from hb]
    simp only [Option.bind_some, if_true]
    rw [w64 hi hl]
   ·refine Ev.step (f := fun _ => some false) (fun k => ?_) (Ev.is (congrArg some (all_no hb)))
    simp only [spec_ProbeTubeOk.l0]
    rw [if_pos (by omega), if_pos (by omega), rd26 hi, spec_box, show boxOk l[i].f0 l[i].f1 l[i].f2 l[i].f3 l[i].f4 l[i].f5 = false from Bool.eq_false_iff.2 hb]
    simp)
theorem spec_tube (s : ByteArray) (l : List S46) : Ev (fun k => spec_ProbeTubeOk.f k s l) (tubeOk s l) := by
 unfold spec_ProbeTubeOk.f
 refine Ev.bind (spec_name s) ?_
 by_cases hn : nameOk s = true
 ·refine Ev.pos hn ?_
  by_cases hl : l.length ≤ 40
  ·refine Ev.step (f := fun k => spec_ProbeTubeOk.l0 k ((0 : Nat) : Int) s l) (fun k => ?_) (Ev.eq (spec_tube_l s l (by omega) 0 (by omega)) (by simp [tubeOk, hn, hl]))
   simp only [spec_ProbeTubeOk.j0]
   rw [if_neg (by simp; omega)]
   rfl
  refine Ev.step (f := fun _ => some false) (fun k => ?_) (Ev.is (by simp [tubeOk, hl]))
  simp only [spec_ProbeTubeOk.j0]
  rw [if_pos (by simp; omega)]
 refine Ev.neg hn (Ev.step (f := fun _ => some false) (fun k => ?_) (Ev.is (by simp [tubeOk, hn])))
 simp [spec_ProbeTubeOk.j0]
theorem impl_tube_l1 (l : List S46) (hl : l.length ≤ 9223372036854775807) : ∀ i : Nat, i ≤ l.length → Ev (fun k => impl_ProbeTubeOk.l1 k l (l.length : Int) (i : Int)) ((l.drop i).all bOk) :=
 drop_ind l (P := fun i r => Ev (fun k => impl_ProbeTubeOk.l1 k l (l.length : Int) (i : Int)) (r.all bOk))
  (Ev.step (f := fun _ => some true) (fun k => by simp only [impl_ProbeTubeOk.l1]; rw [if_neg (by omega)]) (Ev.is rfl))
  (fun i hi ih => by
   by_cases hb : bOk l[i] = true
   ·refine Ev.step (f := fun k => impl_ProbeTubeOk.l1 k l (l.length : Int) ((i + 1 : Nat) : Int)) (fun k => ?_) (Ev.eq ih (all_yes hb))
    simp only [impl_ProbeTubeOk.l1]
    rw [if_pos (by omega), if_pos (by omega), if_pos (by omega), rd26 hi, impl_box, show boxOk l[i].f0 l[i].f1 l[i].f2 l[i].f3 l[i].f4 l[i].f5 = true from hb]
    simp only [Option.bind_some, if_true]
    rw [w64 hi hl]
   ·refine Ev.step (f := fun _ => some false) (fun k => ?_) (Ev.is (congrArg some (all_no hb)))
    simp only [impl_ProbeTubeOk.l1]
    rw [if_pos (by omega), if_pos (by omega), if_pos (by omega), rd26 hi, impl_box, show boxOk l[i].f0 l[i].f1 l[i].f2 l[i].f3 l[i].f4 l[i].f5 = false from Bool.eq_false_iff.2 hb]
    simp)
theorem impl_tube_l0 (s : ByteArray) (l : List S46) (hs : s.size ≤ 9223372036854775807) (hl : l.length ≤ 9223372036854775807) (d : Nat) : ∀ i : Nat, i ≤ s.size → s.size - i = d → Ev (fun k => impl_ProbeTubeOk.l0 k (i : Int) s l) (nameFrom s i && l.all bOk) := by
 induction d with
 | zero =>
  intro i hi hd
  refine Ev.step (f := fun k => impl_ProbeTubeOk.l1 k l (l.length : Int) ((0 : Nat) : Int)) (fun k => ?_) (Ev.eq (impl_tube_l1 l hl 0 (by omega)) (by rw [nameFrom_end s (by omega)]; simp))
  simp only [impl_ProbeTubeOk.l0]
  rw [if_neg (by omega)]
  rfl
 | succ d ih =>
  intro i hi hd
  have hlt : i < s.size := by omega
  by_cases hc : ChOk (bt s (i : Int))
  ·refine Ev.step (f := fun k => impl_ProbeTubeOk.l0 k ((i + 1 : Nat) : Int) s l) (fun k => ?_) (by rw [nameFrom_yes hc]; exact ih (i + 1) (by omega) (by omega))
   simp only [impl_ProbeTubeOk.l0]
   rw [if_pos (by omega), if_pos (by omega), ch_if, if_pos hc, w64 hlt hs]
  refine Ev.step (f := fun _ => some false) (fun k => ?_) (Ev.is (by rw [nameFrom_no hlt hc]; rfl))
  simp only [impl_ProbeTubeOk.l0]
  rw [if_pos (by omega), if_pos (by omega), ch_if, if_neg hc]
theorem impl_tube (s : ByteArray) (l : List S46) : Ev (fun k => impl_ProbeTubeOk.f k s l) (tubeOk s l) := by
 unfold impl_ProbeTubeOk.f
 simp only [in_eq, Option.bind_some, decide_eq_true_eq]
 by_cases hn : 1 ≤ s.size ∧ s.size ≤ 8
 ·refine Ev.pos (by omega) ?_
  by_cases hl : l.length ≤ 40
  ·refine Ev.step (f := fun k => impl_ProbeTubeOk.l0 k ((0 : Nat) : Int) s l) (fun k => ?_) (Ev.eq (impl_tube_l0 s l (by omega) (by omega) s.size 0 (by omega) (by omega)) (by simp [tubeOk, nameOk, hn, hl]))
   simp only [impl_ProbeTubeOk.j0]
   rw [if_neg (by simp; omega)]
   rfl
  refine Ev.step (f := fun _ => some false) (fun k => ?_) (Ev.is (by simp [tubeOk, hl]))
  simp only [impl_ProbeTubeOk.j0]
  rw [if_pos (by simp; omega)]
 refine Ev.neg (by omega) (Ev.step (f := fun _ => some false) (fun k => ?_) (Ev.is (by simp [tubeOk, nameOk, hn])))
 simp [impl_ProbeTubeOk.j0]
theorem rd39 {l : List S33} {i : Nat} (h : i < l.length) : rd_T33 l (i : Int) = l[i] := by
  unfold rd_T33
  simp [h]
def lt (s t : ByteArray) : Bool := Op.bytesLess s.toList t.toList
def skyFrom : Option ByteArray → List S33 → Bool
  | _, [] => true
  | p, t :: r => tubeOk t.f0 t.f1 && (match p with | none => true | some n => lt n t.f0) && skyFrom (some t.f0) r
def skyOk (l : List S33) : Bool := decide (l.length ≤ 24) && skyFrom none l
def ahead (l : List S33) (i : Nat) : Option ByteArray := if i = 0 then none else some (rd_T33 l ((i : Int) - 1)).f0
theorem ahead_succ {l : List S33} {i : Nat} (h : i < l.length) : ahead l (i + 1) = some l[i].f0 := by
  unfold ahead
  rw [if_neg (by omega), show ((i + 1 : Nat) : Int) - 1 = (i : Int) by omega, rd39 h]
theorem wpred {i n : Nat} (h : i < n) (hn : n ≤ 9223372036854775807) : wrap64 ((i : Int) - 1) = (i : Int) - 1 := by
  unfold wrap64
  omega
theorem spec_sky_l (l : List S33) (hl : l.length ≤ 24) : ∀ i : Nat, i ≤ l.length → Ev (fun k => spec_ProbeSkyOk.l0 k l (i : Int)) (skyFrom (ahead l i) (l.drop i)) :=
  drop_ind l (P := fun i r => Ev (fun k => spec_ProbeSkyOk.l0 k l (i : Int)) (skyFrom (ahead l i) r))
    (Ev.step (f := fun _ => some true) (fun k => by simp only [spec_ProbeSkyOk.l0]; rw [if_neg (by omega)]) (Ev.is rfl))
    (fun i hi ih => by
      refine Ev.step (f := fun k => (spec_ProbeTubeOk.f k l[i].f0 l[i].f1).bind fun t => if t = true then (if (i : Int) > 0 then (if lt (rd_T33 l ((i : Int) - 1)).f0 l[i].f0 = true then spec_ProbeSkyOk.l0 k l ((i + 1 : Nat) : Int) else some false) else spec_ProbeSkyOk.l0 k l ((i + 1 : Nat) : Int)) else some false) (fun k => ?_) ?_
      · simp only [spec_ProbeSkyOk.l0]
        rw [if_pos (by omega), if_pos (by omega), rd39 hi, w64 hi (by omega), wpred hi (by omega)]
        congr 1
        funext t
        by_cases h0 : (i : Int) > 0
        · rw [if_pos h0, if_pos h0, if_pos (show 0 ≤ (i : Int) - 1 by omega), if_pos (show (i : Int) - 1 < (l.length : Int) by omega)]
          rfl
        · rw [if_neg h0, if_neg h0]
      · refine Ev.bind (spec_tube l[i].f0 l[i].f1) ?_
        rw [ahead_succ hi] at ih
        by_cases ht : tubeOk l[i].f0 l[i].f1 = true
        · refine Ev.pos ht ?_
          by_cases h0 : (i : Int) > 0
          · refine Ev.pos h0 ?_
            have ha : ahead l i = some (rd_T33 l ((i : Int) - 1)).f0 := by unfold ahead; rw [if_neg (by omega)]
            by_cases hn : lt (rd_T33 l ((i : Int) - 1)).f0 l[i].f0 = true
            · exact Ev.pos hn (Ev.eq ih (by rw [ha]; simp only [skyFrom, ht, hn, Bool.true_and]))
            · exact Ev.neg hn (Ev.is (by rw [ha]; simp only [skyFrom, ht, hn, Bool.true_and, Bool.false_and]))
          · refine Ev.neg h0 (Ev.eq ih ?_)
            have ha : ahead l i = none := by unfold ahead; rw [if_pos (by omega)]
            rw [ha]
            simp only [skyFrom, ht, Bool.true_and]
        · exact Ev.neg ht (Ev.is (by simp only [skyFrom, ht, Bool.false_and])))
theorem spec_sky (l : List S33) : Ev (fun k => spec_ProbeSkyOk.f k l) (skyOk l) := by
  unfold spec_ProbeSkyOk.f
  by_cases h : l.length ≤ 24
  · exact Ev.neg (by omega) (Ev.eq (spec_sky_l l h 0 (by omega)) (by simp [skyOk, h, ahead]))
  exact Ev.pos (by omega) (Ev.is (by simp [skyOk, h]))
theorem impl_sky_l (l : List S33) (hl : l.length ≤ 24) : ∀ i : Nat, i ≤ l.length → Ev (fun k => impl_ProbeSkyOk.l0 k l l (l.length : Int) (i : Int)) (skyFrom (ahead l i) (l.drop i)) :=
  drop_ind l (P := fun i r => Ev (fun k => impl_ProbeSkyOk.l0 k l l (l.length : Int) (i : Int)) (skyFrom (ahead l i) r))
    (Ev.step (f := fun _ => some true) (fun k => by simp only [impl_ProbeSkyOk.l0]; rw [if_neg (by omega)]) (Ev.is rfl))
    (fun i hi ih => by
      refine Ev.step (f := fun k => (impl_ProbeTubeOk.f k l[i].f0 l[i].f1).bind fun t => if t = true then (if (i : Int) > 0 then (if lt (rd_T33 l ((i : Int) - 1)).f0 l[i].f0 = true then impl_ProbeSkyOk.l0 k l l (l.length : Int) ((i + 1 : Nat) : Int) else some false) else impl_ProbeSkyOk.l0 k l l (l.length : Int) ((i + 1 : Nat) : Int)) else some false) (fun k => ?_) ?_
      · simp only [impl_ProbeSkyOk.l0]
        rw [if_pos (by omega), if_pos (by omega), if_pos (by omega), rd39 hi, w64 hi (by omega), wpred hi (by omega)]
        congr 1
        funext t
        by_cases h0 : (i : Int) > 0
        · rw [if_pos h0, if_pos h0, if_pos (show 0 ≤ (i : Int) - 1 by omega), if_pos (show (i : Int) - 1 < (l.length : Int) by omega)]
          rfl
        · rw [if_neg h0, if_neg h0]
      · refine Ev.bind (impl_tube l[i].f0 l[i].f1) ?_
        rw [ahead_succ hi] at ih
        by_cases ht : tubeOk l[i].f0 l[i].f1 = true
        · refine Ev.pos ht ?_
          by_cases h0 : (i : Int) > 0
          · refine Ev.pos h0 ?_
            have ha : ahead l i = some (rd_T33 l ((i : Int) - 1)).f0 := by unfold ahead; rw [if_neg (by omega)]
            by_cases hn : lt (rd_T33 l ((i : Int) - 1)).f0 l[i].f0 = true
            · exact Ev.pos hn (Ev.eq ih (by rw [ha]; simp only [skyFrom, ht, hn, Bool.true_and]))
            · exact Ev.neg hn (Ev.is (by rw [ha]; simp only [skyFrom, ht, hn, Bool.true_and, Bool.false_and]))
          · refine Ev.neg h0 (Ev.eq ih ?_)
            have ha : ahead l i = none := by unfold ahead; rw [if_pos (by omega)]
            rw [ha]
            simp only [skyFrom, ht, Bool.true_and]
        · exact Ev.neg ht (Ev.is (by simp only [skyFrom, ht, Bool.false_and])))
theorem impl_sky (l : List S33) : Ev (fun k => impl_ProbeSkyOk.f k l) (skyOk l) := by
  unfold impl_ProbeSkyOk.f
  by_cases h : l.length ≤ 24
  · exact Ev.neg (by omega) (Ev.eq (impl_sky_l l h 0 (by omega)) (by simp [skyOk, h, ahead]))
  exact Ev.pos (by omega) (Ev.is (by simp [skyOk, h]))
theorem len_of_tube {s : ByteArray} {l : List S46} (h : tubeOk s l = true) : l.length ≤ 40 ∧ l.all bOk = true := by
 simp only [tubeOk, Bool.and_eq_true, decide_eq_true_eq] at h
 exact ⟨h.1.2, h.2⟩
theorem size_of_tube {s : ByteArray} {l : List S46} (h : tubeOk s l = true) : 1 ≤ s.size ∧ s.size ≤ 8 := by
 simp only [tubeOk, nameOk, Bool.and_eq_true, decide_eq_true_eq] at h
 exact h.1.1.1
abbrev St := Option (Int × Int × Int)
abbrev Cl := ByteArray × ByteArray × Int × Int × Int × Bool
def sA (s : ByteArray) : St → ByteArray | none => ⟨#[]⟩ | some _ => s
def sT : St → Int | none => 0 | some t => t.1
def sI : St → Int | none => 0 | some t => t.2.1
def sJ : St → Int | none => 0 | some t => t.2.2
def enc (s s' : ByteArray) (st : St) : Cl := (sA s st, sA s' st, sT st, sI st, sJ st, st.isSome)
def better (st : St) (x y : S46) (i j : Int) : St := if (bNear x y).2 = true then (match st with | none => some ((bNear x y).1, i, j) | some t => if (bNear x y).1 < t.1 then some ((bNear x y).1, i, j) else some t) else st
def meetRow (x : S46) (i : Int) : List S46 → Nat → St → St
 | [], _, st => st
 | y :: r, j, st => meetRow x i r (j + 1) (better st x y i j)
def meetAll (l' : List S46) : List S46 → Nat → St → St
 | [], _, st => st
 | x :: r, i, st => meetAll l' r (i + 1) (meetRow x i l' 0 st)
def meetSt (l l' : List S46) : St := meetAll l' l 0 none
def meet (s : ByteArray) (l : List S46) (s' : ByteArray) (l' : List S46) : Cl := if tubeOk s l = true ∧ tubeOk s' l' = true then enc s s' (meetSt l l') else enc s s' none
theorem bOk_of {l : List S46} (h : l.all bOk = true) {i : Nat} (hi : i < l.length) : bOk l[i] = true := List.all_eq_true.1 h _ (List.getElem_mem hi)
theorem spec_meet_row {s s' : ByteArray} {l l' : List S46} (hl : l.length ≤ 40) (hl' : l'.length ≤ 40) (ho : l.all bOk = true) (ho' : l'.all bOk = true) {i : Nat} (hi : i < l.length) {R : St → Cl}
  (hy : ∀ st : St, Ev (fun k => spec_l3Meet.l0 k st.isSome ((i + 1 : Nat) : Int) s l s' l' (sA s st) (sA s' st) (sT st) (sI st) (sJ st)) (R st)) :
  ∀ j : Nat, j ≤ l'.length → ∀ st : St, Ev (fun k => spec_l3Meet.l1 k st.isSome (i : Int) (j : Int) s l s' l' (sA s st) (sA s' st) (sT st) (sI st) (sJ st)) (R (meetRow l[i] i (l'.drop j) j st)) :=
 drop_ind l' (P := fun j r => ∀ st : St, Ev (fun k => spec_l3Meet.l1 k st.isSome (i : Int) (j : Int) s l s' l' (sA s st) (sA s' st) (sT st) (sI st) (sJ st)) (R (meetRow l[i] i r j st)))
  (fun st => by
   refine Ev.step (f := fun k => spec_l3Meet.l0 k st.isSome ((i + 1 : Nat) : Int) s l s' l' (sA s st) (sA s' st) (sT st) (sI st) (sJ st)) (fun k => ?_) (hy st)
   simp only [spec_l3Meet.l1]
   rw [if_neg (by omega), w64 hi (by omega)])
  (fun j hj ih st => by
   have hc := spec_l1c (bOk_of ho hi) (bOk_of ho' hj)
   refine Ev.step (f := fun k => (spec_l1Close.f k l[i].f0 l[i].f1 l[i].f2 l[i].f3 l[i].f4 l[i].f5 l'[j].f0 l'[j].f1 l'[j].f2 l'[j].f3 l'[j].f4 l'[j].f5).bind fun b => if b.2 = true then (if st.isSome = true then (if b.1 < sT st then spec_l3Meet.l1 k true (i : Int) ((j + 1 : Nat) : Int) s l s' l' s s' b.1 (i : Int) (j : Int) else spec_l3Meet.l1 k st.isSome (i : Int) ((j + 1 : Nat) : Int) s l s' l' (sA s st) (sA s' st) (sT st) (sI st) (sJ st)) else spec_l3Meet.l1 k true (i : Int) ((j + 1 : Nat) : Int) s l s' l' s s' b.1 (i : Int) (j : Int)) else spec_l3Meet.l1 k st.isSome (i : Int) ((j + 1 : Nat) : Int) s l s' l' (sA s st) (sA s' st) (sT st) (sI st) (sJ st)) (fun k => ?_) ?_
   ·simp only [spec_l3Meet.l1]
    rw [if_pos (by omega), if_pos (by omega), if_pos (by omega), if_pos (by omega), rd26 hi, rd26 hj, w64 hj (by omega)]
   ·refine Ev.bind hc ?_
    show Ev (fun k => if (bNear l[i] l'[j]).2 = true then _ else _) _
    rw [show meetRow l[i] i (l'[j] :: l'.drop (j + 1)) j st = meetRow l[i] i (l'.drop (j + 1)) (j + 1) (better st l[i] l'[j] i j) from rfl]
    by_cases hn : (bNear l[i] l'[j]).2 = true
    ·refine Ev.pos hn ?_
     cases st with
     | none =>
      refine Ev.neg (by simp) (Ev.eq (ih (some ((bNear l[i] l'[j]).1, i, j))) ?_)
      simp only [better, hn, if_true]
     | some t =>
      refine Ev.pos rfl ?_
      by_cases ht : (bNear l[i] l'[j]).1 < t.1
      ·refine Ev.pos ht (Ev.eq (ih (some ((bNear l[i] l'[j]).1, i, j))) ?_)
       simp only [better, hn, if_true, ht]
      ·refine Ev.neg ht (Ev.eq (ih (some t)) ?_)
       simp only [better, hn, if_true, ht, if_false]
    ·refine Ev.neg hn (Ev.eq (ih st) ?_)
     simp only [better, hn, Bool.false_eq_true, if_false])
theorem spec_meet_l {s s' : ByteArray} {l l' : List S46} (hl : l.length ≤ 40) (hl' : l'.length ≤ 40) (ho : l.all bOk = true) (ho' : l'.all bOk = true) :
  ∀ i : Nat, i ≤ l.length → ∀ st : St, Ev (fun k => spec_l3Meet.l0 k st.isSome (i : Int) s l s' l' (sA s st) (sA s' st) (sT st) (sI st) (sJ st)) (enc s s' (meetAll l' (l.drop i) i st)) :=
 drop_ind l (P := fun i r => ∀ st : St, Ev (fun k => spec_l3Meet.l0 k st.isSome (i : Int) s l s' l' (sA s st) (sA s' st) (sT st) (sI st) (sJ st)) (enc s s' (meetAll l' r i st)))
  (fun st => Ev.step (f := fun _ => some (enc s s' st)) (fun k => by simp only [spec_l3Meet.l0]; rw [if_neg (by omega)]; rfl) (Ev.is rfl))
  (fun i hi ih st => by
   refine Ev.step (f := fun k => spec_l3Meet.l1 k st.isSome (i : Int) ((0 : Nat) : Int) s l s' l' (sA s st) (sA s' st) (sT st) (sI st) (sJ st)) (fun k => ?_) (Ev.eq (spec_meet_row hl hl' ho ho' hi ih 0 (by omega) st) ?_)
   ·simp only [spec_l3Meet.l0]
    rw [if_pos (by omega)]
    rfl
   ·rfl)
theorem spec_l3meet (s s' : ByteArray) {l l' : List S46} (hl : l.length ≤ 40) (hl' : l'.length ≤ 40) (ho : l.all bOk = true) (ho' : l'.all bOk = true) : Ev (fun k => spec_l3Meet.f k s l s' l') (enc s s' (meetSt l l')) := by
 unfold spec_l3Meet.f
 exact spec_meet_l hl hl' ho ho' 0 (by omega) none
theorem spec_meet (s : ByteArray) (l : List S46) (s' : ByteArray) (l' : List S46) : Ev (fun k => spec_ProbeMeet.f k s l s' l') (meet s l s' l') := by
 unfold spec_ProbeMeet.f
 refine Ev.bind (spec_tube s l) ?_
 by_cases h : tubeOk s l = true
 ·refine Ev.pos h (Ev.bind (spec_tube s' l') ?_)
  by_cases h' : tubeOk s' l' = true
  ·exact Ev.pos h' (Ev.bind (spec_l3meet s s' (len_of_tube h).1 (len_of_tube h').1 (len_of_tube h).2 (len_of_tube h').2) (Ev.is (by rw [meet, if_pos ⟨h, h'⟩])))
  exact Ev.neg h' (Ev.is (by rw [meet, if_neg (fun x => h' x.2)]; rfl))
 exact Ev.neg h (Ev.is (by rw [meet, if_neg (fun x => h x.1)]; rfl))
theorem impl_close_ok {x y : S46} (h : bOk x = true) (h' : bOk y = true) : Ev (fun k => impl_ProbeClose.f k x.f0 x.f1 x.f2 x.f3 x.f4 x.f5 y.f0 y.f1 y.f2 y.f3 y.f4 y.f5) (bNear x y) :=
 Ev.eq (impl_close _ _ _ _ _ _ _ _ _ _ _ _) (by rw [if_pos ⟨h, h'⟩]; rfl)
theorem impl_meet_row {s s' : ByteArray} {l l' : List S46} (hl : l.length ≤ 40) (hl' : l'.length ≤ 40) (ho : l.all bOk = true) (ho' : l'.all bOk = true) {i : Nat} (hi : i < l.length) {R : St → Cl}
  (hy : ∀ st : St, Ev (fun k => impl_ProbeMeet.l0 k st.isSome l (l.length : Int) ((i + 1 : Nat) : Int) s l s' l' (sA s st) (sA s' st) (sT st) (sI st) (sJ st)) (R st)) :
  ∀ j : Nat, j ≤ l'.length → ∀ st : St, Ev (fun k => impl_ProbeMeet.l1 k st.isSome (i : Int) l (l.length : Int) (i : Int) l' (l'.length : Int) (j : Int) s l s' l' (sA s st) (sA s' st) (sT st) (sI st) (sJ st) l[i].f0 l[i].f1 l[i].f2 l[i].f3 l[i].f4 l[i].f5) (R (meetRow l[i] i (l'.drop j) j st)) :=
 drop_ind l' (P := fun j r => ∀ st : St, Ev (fun k => impl_ProbeMeet.l1 k st.isSome (i : Int) l (l.length : Int) (i : Int) l' (l'.length : Int) (j : Int) s l s' l' (sA s st) (sA s' st) (sT st) (sI st) (sJ st) l[i].f0 l[i].f1 l[i].f2 l[i].f3 l[i].f4 l[i].f5) (R (meetRow l[i] i r j st)))
  (fun st => by
   refine Ev.step (f := fun k => impl_ProbeMeet.l0 k st.isSome l (l.length : Int) ((i + 1 : Nat) : Int) s l s' l' (sA s st) (sA s' st) (sT st) (sI st) (sJ st)) (fun k => ?_) (hy st)
   simp only [impl_ProbeMeet.l1]
   rw [if_neg (by omega), w64 hi (by omega)])
  (fun j hj ih st => by
   have hc := impl_close_ok (bOk_of ho hi) (bOk_of ho' hj)
   refine Ev.step (f := fun k => (impl_ProbeClose.f k l[i].f0 l[i].f1 l[i].f2 l[i].f3 l[i].f4 l[i].f5 l'[j].f0 l'[j].f1 l'[j].f2 l'[j].f3 l'[j].f4 l'[j].f5).bind fun b => if b.2 = true then (if st.isSome = true then (if b.1 < sT st then impl_ProbeMeet.l1 k true (i : Int) l (l.length : Int) (i : Int) l' (l'.length : Int) ((j + 1 : Nat) : Int) s l s' l' s s' b.1 (i : Int) (j : Int) l[i].f0 l[i].f1 l[i].f2 l[i].f3 l[i].f4 l[i].f5 else impl_ProbeMeet.l1 k st.isSome (i : Int) l (l.length : Int) (i : Int) l' (l'.length : Int) ((j + 1 : Nat) : Int) s l s' l' (sA s st) (sA s' st) (sT st) (sI st) (sJ st) l[i].f0 l[i].f1 l[i].f2 l[i].f3 l[i].f4 l[i].f5) else impl_ProbeMeet.l1 k true (i : Int) l (l.length : Int) (i : Int) l' (l'.length : Int) ((j + 1 : Nat) : Int) s l s' l' s s' b.1 (i : Int) (j : Int) l[i].f0 l[i].f1 l[i].f2 l[i].f3 l[i].f4 l[i].f5) else impl_ProbeMeet.l1 k st.isSome (i : Int) l (l.length : Int) (i : Int) l' (l'.length : Int) ((j + 1 : Nat) : Int) s l s' l' (sA s st) (sA s' st) (sT st) (sI st) (sJ st) l[i].f0 l[i].f1 l[i].f2 l[i].f3 l[i].f4 l[i].f5) (fun k => ?_) ?_
   ·simp only [impl_ProbeMeet.l1]
    rw [if_pos (by omega), if_pos (by omega), if_pos (by omega), rd26 hj, w64 hj (by omega)]
   ·refine Ev.bind hc ?_
    rw [show meetRow l[i] i (l'[j] :: l'.drop (j + 1)) j st = meetRow l[i] i (l'.drop (j + 1)) (j + 1) (better st l[i] l'[j] i j) from rfl]
    by_cases hn : (bNear l[i] l'[j]).2 = true
    ·refine Ev.pos hn ?_
     cases st with
     | none =>
      refine Ev.neg (by simp) (Ev.eq (ih (some ((bNear l[i] l'[j]).1, i, j))) ?_)
      simp only [better, hn, if_true]
     | some t =>
      refine Ev.pos rfl ?_
      by_cases ht : (bNear l[i] l'[j]).1 < t.1
      ·refine Ev.pos ht (Ev.eq (ih (some ((bNear l[i] l'[j]).1, i, j))) ?_)
       simp only [better, hn, if_true, ht]
      ·refine Ev.neg ht (Ev.eq (ih (some t)) ?_)
       simp only [better, hn, if_true, ht, if_false]
    ·refine Ev.neg hn (Ev.eq (ih st) ?_)
     simp only [better, hn, Bool.false_eq_true, if_false])
theorem impl_meet_l {s s' : ByteArray} {l l' : List S46} (hl : l.length ≤ 40) (hl' : l'.length ≤ 40) (ho : l.all bOk = true) (ho' : l'.all bOk = true) :
  ∀ i : Nat, i ≤ l.length → ∀ st : St, Ev (fun k => impl_ProbeMeet.l0 k st.isSome l (l.length : Int) (i : Int) s l s' l' (sA s st) (sA s' st) (sT st) (sI st) (sJ st)) (enc s s' (meetAll l' (l.drop i) i st)) :=
 drop_ind l (P := fun i r => ∀ st : St, Ev (fun k => impl_ProbeMeet.l0 k st.isSome l (l.length : Int) (i : Int) s l s' l' (sA s st) (sA s' st) (sT st) (sI st) (sJ st)) (enc s s' (meetAll l' r i st)))
  (fun st => Ev.step (f := fun _ => some (enc s s' st)) (fun k => by simp only [impl_ProbeMeet.l0]; rw [if_neg (by omega)]; rfl) (Ev.is rfl))
  (fun i hi ih st => by
   refine Ev.step (f := fun k => impl_ProbeMeet.l1 k st.isSome (i : Int) l (l.length : Int) (i : Int) l' (l'.length : Int) ((0 : Nat) : Int) s l s' l' (sA s st) (sA s' st) (sT st) (sI st) (sJ st) l[i].f0 l[i].f1 l[i].f2 l[i].f3 l[i].f4 l[i].f5) (fun k => ?_) (Ev.eq (impl_meet_row hl hl' ho ho' hi ih 0 (by omega) st) ?_)
   ·simp only [impl_ProbeMeet.l0]
    rw [if_pos (by omega), if_pos (by omega), if_pos (by omega), rd26 hi]
    rfl
   ·rfl)
theorem impl_meet (s : ByteArray) (l : List S46) (s' : ByteArray) (l' : List S46) : Ev (fun k => impl_ProbeMeet.f k s l s' l') (meet s l s' l') := by
 unfold impl_ProbeMeet.f
 refine Ev.bind (impl_tube s l) ?_
 by_cases h : tubeOk s l = true
 ·refine Ev.pos h (Ev.bind (impl_tube s' l') ?_)
  by_cases h' : tubeOk s' l' = true
  ·refine Ev.step (f := fun k => impl_ProbeMeet.l0 k false l (l.length : Int) ((0 : Nat) : Int) s l s' l' (⟨#[]⟩ : ByteArray) (⟨#[]⟩ : ByteArray) 0 0 0) (fun k => ?_) (Ev.eq (impl_meet_l (len_of_tube h).1 (len_of_tube h').1 (len_of_tube h).2 (len_of_tube h').2 0 (by omega) none) (by rw [meet, if_pos ⟨h, h'⟩]; rfl))
   simp only [impl_ProbeMeet.j0]
   rw [if_neg (by simp [h'])]
   rfl
  refine Ev.step (f := fun _ => some (enc s s' none)) (fun k => ?_) (Ev.is (by rw [meet, if_neg (fun x => h' x.2)]))
  simp only [impl_ProbeMeet.j0]
  rw [if_pos (by simpa using h')]
  rfl
 refine Ev.neg h (Ev.step (f := fun _ => some (enc s s' none)) (fun k => ?_) (Ev.is (by rw [meet, if_neg (fun x => h x.1)])))
 simp only [impl_ProbeMeet.j0]
 rfl
def cutB (fr : Int) (b : S46) : S46 := ⟨b.f0, b.f1, b.f2, b.f3, mx b.f4 fr, b.f5⟩
def cutL (fr : Int) (l : List S46) : List S46 := (l.filter fun b => decide (fr ≤ b.f5)).map (cutB fr)
def cut (s : ByteArray) (l : List S46) (fr : Int) : ByteArray × List S46 := if tubeOk s l = true then (s, cutL fr l) else (⟨#[]⟩, [])
theorem cutL_yes {fr : Int} {b : S46} (r : List S46) (h : fr ≤ b.f5) : cutL fr (b :: r) = cutB fr b :: cutL fr r := by simp [cutL, h]
theorem cutL_no {fr : Int} {b : S46} (r : List S46) (h : ¬ fr ≤ b.f5) : cutL fr (b :: r) = cutL fr r := by simp [cutL, h]
theorem cutL_len (fr : Int) (l : List S46) : (cutL fr l).length ≤ l.length := by
  simp only [cutL, List.length_map]
  exact List.length_filter_le _ _
theorem spec_cut_l {s s' : ByteArray} {l : List S46} (fr : Int) (hl : l.length ≤ 40) : ∀ i : Nat, i ≤ l.length → ∀ acc : List S46, acc.length ≤ i → Ev (fun k => spec_ProbeCut.l0 k fr (i : Int) s l s' acc) (s', acc ++ cutL fr (l.drop i)) :=
  drop_ind l (P := fun i r => ∀ acc : List S46, acc.length ≤ i → Ev (fun k => spec_ProbeCut.l0 k fr (i : Int) s l s' acc) (s', acc ++ cutL fr r))
    (fun acc _ => Ev.step (f := fun _ => some (s', acc)) (fun k => by simp only [spec_ProbeCut.l0]; rw [if_neg (by omega)]) (Ev.is (by simp [cutL])))
    (fun i hi ih acc ha => by
      by_cases hf : fr ≤ l[i].f5
      · refine Ev.step (f := fun k => spec_ProbeCut.l0 k fr ((i + 1 : Nat) : Int) s l s' (acc ++ [cutB fr l[i]])) (fun k => ?_) (Ev.eq (ih (acc ++ [cutB fr l[i]]) (by simp; omega)) (by rw [cutL_yes _ hf, List.append_assoc]; rfl))
        simp only [spec_ProbeCut.l0]
        rw [if_pos (by omega), if_pos (by omega), rd26 hi, if_neg (by omega)]
        by_cases h4 : l[i].f4 < fr
        · rw [if_pos h4, if_pos (by omega), w64 hi (by omega)]
          simp only [cutB, mx, h4, if_true]
        · rw [if_neg h4, if_pos (by omega), w64 hi (by omega)]
          simp only [cutB, mx, h4, if_false]
      · refine Ev.step (f := fun k => spec_ProbeCut.l0 k fr ((i + 1 : Nat) : Int) s l s' acc) (fun k => ?_) (Ev.eq (ih acc (by omega)) (by rw [cutL_no _ hf]))
        simp only [spec_ProbeCut.l0]
        rw [if_pos (by omega), if_pos (by omega), rd26 hi, if_pos (by omega), w64 hi (by omega)])
theorem spec_cut (s : ByteArray) (l : List S46) (fr : Int) : Ev (fun k => spec_ProbeCut.f k s l fr) (cut s l fr) := by
  unfold spec_ProbeCut.f
  refine Ev.bind (spec_tube s l) ?_
  by_cases h : tubeOk s l = true
  · exact Ev.pos h (Ev.eq (spec_cut_l fr (len_of_tube h).1 0 (by omega) [] (by simp)) (by rw [cut, if_pos h]; rfl))
  exact Ev.neg h (Ev.is (by rw [cut, if_neg h]))
theorem impl_cut_l {s' : ByteArray} {l : List S46} (fr : Int) (hl : l.length ≤ 40) : ∀ i : Nat, i ≤ l.length → ∀ acc : List S46, acc.length ≤ i → Ev (fun k => impl_ProbeCut.l0 k fr l (l.length : Int) (i : Int) s' acc) (s', acc ++ cutL fr (l.drop i)) :=
  drop_ind l (P := fun i r => ∀ acc : List S46, acc.length ≤ i → Ev (fun k => impl_ProbeCut.l0 k fr l (l.length : Int) (i : Int) s' acc) (s', acc ++ cutL fr r))
    (fun acc _ => Ev.step (f := fun _ => some (s', acc)) (fun k => by simp only [impl_ProbeCut.l0]; rw [if_neg (by omega)]) (Ev.is (by simp [cutL])))
    (fun i hi ih acc ha => by
      by_cases hf : fr ≤ l[i].f5
      · refine Ev.step (f := fun k => impl_ProbeCut.l0 k fr l (l.length : Int) ((i + 1 : Nat) : Int) s' (acc ++ [cutB fr l[i]])) (fun k => ?_) (Ev.eq (ih (acc ++ [cutB fr l[i]]) (by simp; omega)) (by rw [cutL_yes _ hf, List.append_assoc]; rfl))
        simp only [impl_ProbeCut.l0]
        rw [if_pos (by omega), if_pos (by omega), if_pos (by omega), rd26 hi, if_pos (by omega), if_pos (by omega), w64 hi (by omega)]
        rfl
      · refine Ev.step (f := fun k => impl_ProbeCut.l0 k fr l (l.length : Int) ((i + 1 : Nat) : Int) s' acc) (fun k => ?_) (Ev.eq (ih acc (by omega)) (by rw [cutL_no _ hf]))
        simp only [impl_ProbeCut.l0]
        rw [if_pos (by omega), if_pos (by omega), if_pos (by omega), rd26 hi, if_neg (by omega), w64 hi (by omega)])
theorem impl_cut (s : ByteArray) (l : List S46) (fr : Int) : Ev (fun k => impl_ProbeCut.f k s l fr) (cut s l fr) := by
  unfold impl_ProbeCut.f
  refine Ev.bind (impl_tube s l) ?_
  by_cases h : tubeOk s l = true
  · exact Ev.pos h (Ev.eq (impl_cut_l fr (len_of_tube h).1 0 (by omega) [] (by simp)) (by rw [cut, if_pos h]; rfl))
  exact Ev.neg h (Ev.is (by rw [cut, if_neg h]))
theorem cut_len (s : ByteArray) (l : List S46) (fr : Int) : (cut s l fr).2.length ≤ 40 := by
  unfold cut
  split
  · rename_i h
    exact Nat.le_trans (cutL_len fr l) (len_of_tube h).1
  · simp

def mkC (c : Cl) : S70 := ⟨c.1, c.2.1, c.2.2.1, c.2.2.2.1, c.2.2.2.2.1⟩
def withL (s : ByteArray) (l : List S46) : List S33 → List S70
  | [] => []
  | t :: r => if (meetSt l t.f1).isSome = true ∧ t.f0.toList ≠ s.toList then mkC (enc s t.f0 (meetSt l t.f1)) :: withL s l r else withL s l r
theorem withL_len (s : ByteArray) (l : List S46) : ∀ r : List S33, (withL s l r).length ≤ r.length
  | [] => Nat.le_refl _
  | t :: r => by
    have := withL_len s l r
    unfold withL
    split
    · simp only [List.length_cons]; omega
    · simp only [List.length_cons]; omega
theorem sky_mem : ∀ {l : List S33} {p : Option ByteArray}, skyFrom p l = true → ∀ t ∈ l, tubeOk t.f0 t.f1 = true
  | [], _, _, t, h => by simp at h
  | x :: r, p, h, t, ht => by
    simp only [skyFrom, Bool.and_eq_true] at h
    rcases List.mem_cons.1 ht with rfl | ht
    · exact h.1.1
    · exact sky_mem h.2 t ht
theorem sky_len {l : List S33} (h : skyOk l = true) : l.length ≤ 24 ∧ ∀ t ∈ l, tubeOk t.f0 t.f1 = true := by
  simp only [skyOk, Bool.and_eq_true, decide_eq_true_eq] at h
  exact ⟨h.1, sky_mem h.2⟩
theorem spec_with_l {s : ByteArray} {l : List S46} (ht : tubeOk s l = true) {L : List S33} (hL : skyOk L = true) : ∀ i : Nat, i ≤ L.length → ∀ acc : List S70, acc.length ≤ i → Ev (fun k => spec_l4With.l0 k L acc (i : Int) s l) (acc ++ withL s l (L.drop i)) :=
  drop_ind L (P := fun i r => ∀ acc : List S70, acc.length ≤ i → Ev (fun k => spec_l4With.l0 k L acc (i : Int) s l) (acc ++ withL s l r))
    (fun acc _ => Ev.step (f := fun _ => some acc) (fun k => by simp only [spec_l4With.l0]; rw [if_neg (by omega)]) (Ev.is (by simp [withL])))
    (fun i hi ih acc ha => by
      have hk := sky_len hL
      have hx := hk.2 _ (List.getElem_mem hi)
      refine Ev.step (f := fun k => (spec_l3Meet.f k s l L[i].f0 L[i].f1).bind fun c => if c.2.2.2.2.2 = true then (if L[i].f0.toList = s.toList then spec_l4With.l0 k L acc ((i + 1 : Nat) : Int) s l else spec_l4With.l0 k L (acc ++ [mkC c]) ((i + 1 : Nat) : Int) s l) else spec_l4With.l0 k L acc ((i + 1 : Nat) : Int) s l) (fun k => ?_) ?_
      · simp only [spec_l4With.l0]
        rw [if_pos (by omega), if_pos (by omega), rd39 hi, w64 hi (by omega)]
        congr 1
        funext c
        rw [if_pos (show acc.length < 2513169434916 by omega)]
        rfl
      · refine Ev.bind (spec_l3meet s L[i].f0 (len_of_tube ht).1 (len_of_tube hx).1 (len_of_tube ht).2 (len_of_tube hx).2) ?_
        by_cases hm : (meetSt l L[i].f1).isSome = true
        · refine Ev.pos hm ?_
          by_cases hn : L[i].f0.toList = s.toList
          · exact Ev.pos hn (Ev.eq (ih acc (by omega)) (by rw [withL, if_neg (fun x => x.2 hn)]))
          · exact Ev.neg hn (Ev.eq (ih (acc ++ [mkC (enc s L[i].f0 (meetSt l L[i].f1))]) (by simp; omega)) (by rw [withL, if_pos ⟨hm, hn⟩, List.append_assoc]; rfl))
        · exact Ev.neg hm (Ev.eq (ih acc (by omega)) (by rw [withL, if_neg (fun x => hm x.1)])))
theorem spec_l4with {s : ByteArray} {l : List S46} (ht : tubeOk s l = true) {L : List S33} (hL : skyOk L = true) : Ev (fun k => spec_l4With.f k L s l) (withL s l L) := by
  unfold spec_l4With.f
  exact spec_with_l ht hL 0 (by omega) [] (by simp)
theorem impl_with_l {s : ByteArray} {l : List S46} (ht : tubeOk s l = true) {L : List S33} (hL : skyOk L = true) : ∀ i : Nat, i ≤ L.length → ∀ acc : List S70, acc.length ≤ i → Ev (fun k => impl_ProbeWith.l0 k acc L (L.length : Int) (i : Int) s l) (acc ++ withL s l (L.drop i)) :=
  drop_ind L (P := fun i r => ∀ acc : List S70, acc.length ≤ i → Ev (fun k => impl_ProbeWith.l0 k acc L (L.length : Int) (i : Int) s l) (acc ++ withL s l r))
    (fun acc _ => Ev.step (f := fun _ => some acc) (fun k => by simp only [impl_ProbeWith.l0]; rw [if_neg (by omega)]) (Ev.is (by simp [withL])))
    (fun i hi ih acc ha => by
      have hk := sky_len hL
      have hx := hk.2 _ (List.getElem_mem hi)
      refine Ev.step (f := fun k => (impl_ProbeMeet.f k s l L[i].f0 L[i].f1).bind fun c => if c.2.2.2.2.2 = true then (if L[i].f0.toList = s.toList then impl_ProbeWith.l0 k acc L (L.length : Int) ((i + 1 : Nat) : Int) s l else impl_ProbeWith.l0 k (acc ++ [mkC c]) L (L.length : Int) ((i + 1 : Nat) : Int) s l) else impl_ProbeWith.l0 k acc L (L.length : Int) ((i + 1 : Nat) : Int) s l) (fun k => ?_) ?_
      · simp only [impl_ProbeWith.l0]
        rw [if_pos (by omega), if_pos (by omega), if_pos (by omega), rd39 hi, w64 hi (by omega)]
        congr 1
        funext c
        rw [if_pos (show acc.length < 2513169434916 by omega)]
        rfl
      · refine Ev.bind (Ev.eq (impl_meet s l L[i].f0 L[i].f1) (by rw [meet, if_pos ⟨ht, hx⟩])) ?_
        by_cases hm : (meetSt l L[i].f1).isSome = true
        · refine Ev.pos hm ?_
          by_cases hn : L[i].f0.toList = s.toList
          · exact Ev.pos hn (Ev.eq (ih acc (by omega)) (by rw [withL, if_neg (fun x => x.2 hn)]))
          · exact Ev.neg hn (Ev.eq (ih (acc ++ [mkC (enc s L[i].f0 (meetSt l L[i].f1))]) (by simp; omega)) (by rw [withL, if_pos ⟨hm, hn⟩, List.append_assoc]; rfl))
        · exact Ev.neg hm (Ev.eq (ih acc (by omega)) (by rw [withL, if_neg (fun x => hm x.1)])))
def withA (L : List S33) (s : ByteArray) (l : List S46) : List S70 := if skyOk L = true ∧ tubeOk s l = true then withL s l L else []
theorem impl_with (L : List S33) (s : ByteArray) (l : List S46) : Ev (fun k => impl_ProbeWith.f k L s l) (withA L s l) := by
  unfold impl_ProbeWith.f
  refine Ev.bind (impl_sky L) ?_
  by_cases hL : skyOk L = true
  · refine Ev.pos hL (Ev.bind (impl_tube s l) ?_)
    by_cases ht : tubeOk s l = true
    · refine Ev.step (f := fun k => impl_ProbeWith.l0 k [] L (L.length : Int) ((0 : Nat) : Int) s l) (fun k => ?_) (Ev.eq (impl_with_l ht hL 0 (by omega) [] (by simp)) (by rw [withA, if_pos ⟨hL, ht⟩]; rfl))
      simp only [impl_ProbeWith.j0]
      rw [if_neg (by simp [ht])]
      rfl
    refine Ev.step (f := fun _ => some []) (fun k => ?_) (Ev.is (by rw [withA, if_neg (fun x => ht x.2)]))
    simp only [impl_ProbeWith.j0]
    rw [if_pos (by simpa using ht)]
  refine Ev.neg hL (Ev.step (f := fun _ => some []) (fun k => ?_) (Ev.is (by rw [withA, if_neg (fun x => hL x.1)])))
  simp only [impl_ProbeWith.j0]
  rfl
def freeA (L : List S33) (s : ByteArray) (l : List S46) : Bool := skyOk L && tubeOk s l && ((withL s l L).length == 0)
theorem spec_free (L : List S33) (s : ByteArray) (l : List S46) : Ev (fun k => spec_ProbeFree.f k L s l) (freeA L s l) := by
  unfold spec_ProbeFree.f
  refine Ev.bind (spec_sky L) ?_
  by_cases hL : skyOk L = true
  · refine Ev.pos hL (Ev.bind (spec_tube s l) ?_)
    by_cases ht : tubeOk s l = true
    · refine Ev.pos ht (Ev.bind (spec_l4with ht hL) (Ev.is ?_))
      simp only [freeA, hL, ht, Bool.true_and, Option.some.injEq]
      rw [Bool.eq_iff_iff]
      simp
    exact Ev.neg ht (Ev.is (by simp [freeA, ht]))
  exact Ev.neg hL (Ev.is (by simp [freeA, hL]))
theorem impl_free (L : List S33) (s : ByteArray) (l : List S46) : Ev (fun k => impl_ProbeFree.f k L s l) (freeA L s l) := by
  unfold impl_ProbeFree.f
  refine Ev.bind (impl_sky L) ?_
  by_cases hL : skyOk L = true
  · refine Ev.pos hL (Ev.bind (impl_tube s l) ?_)
    by_cases ht : tubeOk s l = true
    · refine Ev.pos ht (Ev.bind (Ev.eq (impl_with L s l) (by rw [withA, if_pos ⟨hL, ht⟩])) (Ev.is ?_))
      simp only [freeA, hL, ht, Bool.true_and, Option.some.injEq]
      rw [Bool.eq_iff_iff]
      simp
    · exact Ev.neg ht (Ev.is (by simp [freeA, ht]))
  · exact Ev.neg hL (Ev.is (by simp [freeA, hL]))
def rowL (t : S33) : List S33 → List S70
  | [] => []
  | u :: r => if (meetSt t.f1 u.f1).isSome = true then mkC (enc t.f0 u.f0 (meetSt t.f1 u.f1)) :: rowL t r else rowL t r
def allL : List S33 → List S70
  | [] => []
  | t :: r => rowL t r ++ allL r
theorem rowL_len (t : S33) : ∀ r : List S33, (rowL t r).length ≤ r.length
  | [] => Nat.le_refl _
  | u :: r => by
    have := rowL_len t r
    unfold rowL
    split
    · simp only [List.length_cons]; omega
    · simp only [List.length_cons]; omega
theorem allL_len : ∀ {l : List S33}, l.length ≤ 24 → (allL l).length ≤ 24 * l.length
  | [], _ => Nat.le_refl _
  | t :: r, h => by
    simp only [List.length_cons] at h
    have h1 := rowL_len t r
    have h2 := allL_len (l := r) (by omega)
    simp only [allL, List.length_append, List.length_cons]
    omega
theorem spec_all_row {L : List S33} (hL : skyOk L = true) {i : Nat} (hi : i < L.length) {R : List S70 → List S70}
    (hy : ∀ acc : List S70, acc.length ≤ 1000 * (i + 1) → Ev (fun k => spec_ProbeAll.l0 k L acc ((i + 1 : Nat) : Int)) (R acc)) :
    ∀ j : Nat, j ≤ L.length → ∀ acc : List S70, acc.length ≤ 1000 * i + j → Ev (fun k => spec_ProbeAll.l1 k L acc (i : Int) (j : Int)) (R (acc ++ rowL L[i] (L.drop j))) :=
  drop_ind L (P := fun j r => ∀ acc : List S70, acc.length ≤ 1000 * i + j → Ev (fun k => spec_ProbeAll.l1 k L acc (i : Int) (j : Int)) (R (acc ++ rowL L[i] r)))
    (fun acc ha => by
      have hk := (sky_len hL).1
      refine Ev.step (f := fun k => spec_ProbeAll.l0 k L acc ((i + 1 : Nat) : Int)) (fun k => ?_) (Ev.eq (hy acc (by omega)) (by rw [rowL, List.append_nil]))
      simp only [spec_ProbeAll.l1]
      rw [if_neg (by omega), w64 hi (by omega)])
    (fun j hj ih acc ha => by
      have hk := sky_len hL
      have hx := hk.2 _ (List.getElem_mem hi)
      have hz := hk.2 _ (List.getElem_mem hj)
      refine Ev.step (f := fun k => (spec_l3Meet.f k L[i].f0 L[i].f1 L[j].f0 L[j].f1).bind fun c => if c.2.2.2.2.2 = true then spec_ProbeAll.l1 k L (acc ++ [mkC c]) (i : Int) ((j + 1 : Nat) : Int) else spec_ProbeAll.l1 k L acc (i : Int) ((j + 1 : Nat) : Int)) (fun k => ?_) ?_
      · simp only [spec_ProbeAll.l1]
        rw [if_pos (by omega), if_pos (by omega), if_pos (by omega), if_pos (by omega), rd39 hi, rd39 hj, w64 hj (by omega)]
        congr 1
        funext c
        rw [if_pos (show acc.length < 2513169434916 by omega)]
        rfl
      · refine Ev.bind (spec_l3meet L[i].f0 L[j].f0 (len_of_tube hx).1 (len_of_tube hz).1 (len_of_tube hx).2 (len_of_tube hz).2) ?_
        by_cases hm : (meetSt L[i].f1 L[j].f1).isSome = true
        · exact Ev.pos hm (Ev.eq (ih (acc ++ [mkC (enc L[i].f0 L[j].f0 (meetSt L[i].f1 L[j].f1))]) (by simp; omega)) (by rw [rowL, if_pos hm, List.append_assoc]; rfl))
        · exact Ev.neg hm (Ev.eq (ih acc (by omega)) (by rw [rowL, if_neg hm])))
theorem spec_all_l {L : List S33} (hL : skyOk L = true) : ∀ i : Nat, i ≤ L.length → ∀ acc : List S70, acc.length ≤ 1000 * i → Ev (fun k => spec_ProbeAll.l0 k L acc (i : Int)) (acc ++ allL (L.drop i)) :=
  drop_ind L (P := fun i r => ∀ acc : List S70, acc.length ≤ 1000 * i → Ev (fun k => spec_ProbeAll.l0 k L acc (i : Int)) (acc ++ allL r))
    (fun acc _ => Ev.step (f := fun _ => some acc) (fun k => by simp only [spec_ProbeAll.l0]; rw [if_neg (by omega)]) (Ev.is (by simp [allL])))
    (fun i hi ih acc ha => by
      have hk := (sky_len hL).1
      refine Ev.step (f := fun k => spec_ProbeAll.l1 k L acc (i : Int) ((i + 1 : Nat) : Int)) (fun k => ?_) (Ev.eq (spec_all_row hL hi (R := fun a => a ++ allL (L.drop (i + 1))) ih (i + 1) (by omega) acc (by omega)) (by rw [allL, List.append_assoc]))
      simp only [spec_ProbeAll.l0]
      rw [if_pos (by omega), w64 hi (by omega)])
def allA (L : List S33) : List S70 := if skyOk L = true then allL L else []
theorem allA_len (L : List S33) : (allA L).length ≤ 1000 := by
  unfold allA
  split
  · rename_i h
    have h1 := (sky_len h).1
    have := allL_len h1
    omega
  simp
theorem spec_all (L : List S33) : Ev (fun k => spec_ProbeAll.f k L) (allA L) := by
  unfold spec_ProbeAll.f
  simp only [Option.bind_some]
  refine Ev.bind (spec_sky L) ?_
  by_cases hL : skyOk L = true
  · exact Ev.pos hL (Ev.eq (spec_all_l hL 0 (by omega) [] (by simp)) (by rw [allA, if_pos hL]; rfl))
  exact Ev.neg hL (Ev.is (by rw [allA, if_neg hL]))
theorem impl_all_row {L : List S33} (hL : skyOk L = true) {i : Nat} (hi : i < L.length) {D : List S33} (hD : D = L.drop (i + 1)) {R : List S70 → List S70}
    (hy : ∀ acc : List S70, acc.length ≤ 1000 * (i + 1) → Ev (fun k => impl_ProbeAll.l0 k L acc L (L.length : Int) ((i + 1 : Nat) : Int)) (R acc)) :
    ∀ j : Nat, j ≤ D.length → ∀ acc : List S70, acc.length ≤ 1000 * i + j → Ev (fun k => impl_ProbeAll.l1 k L acc L (L.length : Int) (i : Int) D (D.length : Int) (j : Int) L[i].f0 L[i].f1) (R (acc ++ rowL L[i] (D.drop j))) :=
  drop_ind D (P := fun j r => ∀ acc : List S70, acc.length ≤ 1000 * i + j → Ev (fun k => impl_ProbeAll.l1 k L acc L (L.length : Int) (i : Int) D (D.length : Int) (j : Int) L[i].f0 L[i].f1) (R (acc ++ rowL L[i] r)))
    (fun acc ha => by
      have hk := (sky_len hL).1
      have hd : D.length ≤ L.length := by rw [hD, List.length_drop]; omega
      refine Ev.step (f := fun k => impl_ProbeAll.l0 k L acc L (L.length : Int) ((i + 1 : Nat) : Int)) (fun k => ?_) (Ev.eq (hy acc (by omega)) (by rw [rowL, List.append_nil]))
      simp only [impl_ProbeAll.l1]
      rw [if_neg (by omega), w64 hi (by omega)])
    (fun j hj ih acc ha => by
      have hk := sky_len hL
      have hd : D.length ≤ L.length := by rw [hD, List.length_drop]; omega
      have hx := hk.2 _ (List.getElem_mem hi)
      have hz : tubeOk D[j].f0 D[j].f1 = true := hk.2 _ (List.mem_of_mem_drop (i := i + 1) (by rw [← hD]; exact List.getElem_mem hj))
      refine Ev.step (f := fun k => (impl_ProbeMeet.f k L[i].f0 L[i].f1 D[j].f0 D[j].f1).bind fun c => if c.2.2.2.2.2 = true then impl_ProbeAll.l1 k L (acc ++ [mkC c]) L (L.length : Int) (i : Int) D (D.length : Int) ((j + 1 : Nat) : Int) L[i].f0 L[i].f1 else impl_ProbeAll.l1 k L acc L (L.length : Int) (i : Int) D (D.length : Int) ((j + 1 : Nat) : Int) L[i].f0 L[i].f1) (fun k => ?_) ?_
      · simp only [impl_ProbeAll.l1]
        rw [if_pos (by omega), if_pos (by omega), if_pos (by omega), rd39 hj, w64 hj (by omega)]
        congr 1
        funext c
        rw [if_pos (show acc.length < 2513169434916 by omega)]
        rfl
      · refine Ev.bind (Ev.eq (impl_meet L[i].f0 L[i].f1 D[j].f0 D[j].f1) (by rw [meet, if_pos ⟨hx, hz⟩])) ?_
        by_cases hm : (meetSt L[i].f1 D[j].f1).isSome = true
        · exact Ev.pos hm (Ev.eq (ih (acc ++ [mkC (enc L[i].f0 D[j].f0 (meetSt L[i].f1 D[j].f1))]) (by simp; omega)) (by rw [rowL, if_pos hm, List.append_assoc]; rfl))
        · exact Ev.neg hm (Ev.eq (ih acc (by omega)) (by rw [rowL, if_neg hm])))
theorem impl_all_l {L : List S33} (hL : skyOk L = true) : ∀ i : Nat, i ≤ L.length → ∀ acc : List S70, acc.length ≤ 1000 * i → Ev (fun k => impl_ProbeAll.l0 k L acc L (L.length : Int) (i : Int)) (acc ++ allL (L.drop i)) :=
  drop_ind L (P := fun i r => ∀ acc : List S70, acc.length ≤ 1000 * i → Ev (fun k => impl_ProbeAll.l0 k L acc L (L.length : Int) (i : Int)) (acc ++ allL r))
    (fun acc _ => Ev.step (f := fun _ => some acc) (fun k => by simp only [impl_ProbeAll.l0]; rw [if_neg (by omega)]) (Ev.is (by simp [allL])))
    (fun i hi ih acc ha => by
      have hk := (sky_len hL).1
      refine Ev.step (f := fun k => impl_ProbeAll.l1 k L acc L (L.length : Int) (i : Int) (L.drop (i + 1)) ((L.drop (i + 1)).length : Int) ((0 : Nat) : Int) L[i].f0 L[i].f1) (fun k => ?_) (Ev.eq (impl_all_row hL hi rfl (R := fun a => a ++ allL (L.drop (i + 1))) ih 0 (by omega) acc (by omega)) (by rw [allL, List.append_assoc]; rfl))
      simp only [impl_ProbeAll.l0]
      rw [if_pos (by omega), if_pos (by omega), if_pos (by omega), w64 hi (by omega), if_pos (by omega), if_pos (by omega), rd39 hi]
      rfl)
theorem impl_all (L : List S33) : Ev (fun k => impl_ProbeAll.f k L) (allA L) := by
  unfold impl_ProbeAll.f
  refine Ev.bind (impl_sky L) ?_
  by_cases hL : skyOk L = true
  · exact Ev.pos hL (Ev.eq (impl_all_l hL 0 (by omega) [] (by simp)) (by rw [allA, if_pos hL]; rfl))
  exact Ev.neg hL (Ev.is (by rw [allA, if_neg hL]))
theorem spec_with (L : List S33) (s : ByteArray) (l : List S46) : Ev (fun k => spec_ProbeWith.f k L s l) (withA L s l) := by
  unfold spec_ProbeWith.f
  refine Ev.bind (spec_sky L) ?_
  by_cases hL : skyOk L = true
  · refine Ev.pos hL (Ev.bind (spec_tube s l) ?_)
    by_cases ht : tubeOk s l = true
    · exact Ev.pos ht (Ev.bind (spec_l4with ht hL) (Ev.is (by rw [withA, if_pos ⟨hL, ht⟩])))
    exact Ev.neg ht (Ev.is (by rw [withA, if_neg (fun x => ht x.2)]))
  exact Ev.neg hL (Ev.is (by rw [withA, if_neg (fun x => hL x.1)]))
theorem withA_len (L : List S33) (s : ByteArray) (l : List S46) : (withA L s l).length ≤ 1000 := by
  unfold withA
  split
  · rename_i h
    have h1 := (sky_len h.1).1
    have := withL_len s l L
    omega
  simp
theorem bOk_bounds {x : S46} (h : bOk x = true) : 0 ≤ x.f0 ∧ x.f0 ≤ 15 ∧ 0 ≤ x.f1 ∧ x.f1 ≤ 15 ∧ 0 ≤ x.f2 ∧ x.f2 ≤ x.f3 ∧ x.f3 ≤ 6 ∧ 0 ≤ x.f4 ∧ x.f4 ≤ x.f5 ∧ x.f5 ≤ 10000 := ok_bounds h
def Best (l l' : List S46) (seen : S46 → S46 → Prop) : St → Prop
 | none => ∀ x y, seen x y → ¬ (bNear x y).2 = true
 | some t => (∃ i j : Nat, t.2.1 = i ∧ t.2.2 = j ∧ ∃ (hi : i < l.length) (hj : j < l'.length), bNear l[i] l'[j] = (t.1, true)) ∧ ∀ x y, seen x y → (bNear x y).2 = true → t.1 ≤ (bNear x y).1
theorem Best.one {l l' : List S46} {seen : S46 → S46 → Prop} {st : St} (h : Best l l' seen st) {i j : Nat} (hi : i < l.length) (hj : j < l'.length) : Best l l' (fun x y => seen x y ∨ (x = l[i] ∧ y = l'[j])) (better st l[i] l'[j] i j) := by
 by_cases hn : (bNear l[i] l'[j]).2 = true
 ·cases st with
  | none =>
   simp only [better, hn, if_true]
   refine ⟨⟨i, j, rfl, rfl, hi, hj, Prod.ext rfl hn⟩, ?_⟩
   rintro x y (hs | ⟨rfl, rfl⟩) hxy
   ·exact absurd hxy (h x y hs)
   exact Int.le_refl _
  | some t =>
   simp only [better, hn, if_true]
   by_cases ht : (bNear l[i] l'[j]).1 < t.1
   ·rw [if_pos ht]
    refine ⟨⟨i, j, rfl, rfl, hi, hj, Prod.ext rfl hn⟩, ?_⟩
    rintro x y (hs | ⟨rfl, rfl⟩) hxy
    ·have := h.2 x y hs hxy
     show (bNear l[i] l'[j]).1 ≤ _
     omega
    exact Int.le_refl _
   rw [if_neg ht]
   refine ⟨h.1, ?_⟩
   rintro x y (hs | ⟨rfl, rfl⟩) hxy
   ·exact h.2 x y hs hxy
   omega
 rw [show better st l[i] l'[j] i j = st by simp only [better, hn]; rfl]
 cases st with
 | none =>
  rintro x y (hs | ⟨rfl, rfl⟩)
  ·exact h x y hs
  exact hn
 | some t =>
  refine ⟨h.1, ?_⟩
  rintro x y (hs | ⟨rfl, rfl⟩) hxy
  ·exact h.2 x y hs hxy
  exact absurd hxy hn
theorem Best.mono {l l' : List S46} {seen seen' : S46 → S46 → Prop} {st : St} (h : Best l l' seen st) (hs : ∀ x y, seen' x y → seen x y) : Best l l' seen' st := by
 cases st with
 | none => exact fun x y hh => h x y (hs x y hh)
 | some t => exact ⟨h.1, fun x y hh => h.2 x y (hs x y hh)⟩
theorem Best.row {l l' : List S46} {i : Nat} (hi : i < l.length) : ∀ j : Nat, j ≤ l'.length → ∀ (seen : S46 → S46 → Prop) (st : St), Best l l' seen st → Best l l' (fun x y => seen x y ∨ (x = l[i] ∧ y ∈ l'.drop j)) (meetRow l[i] i (l'.drop j) j st) :=
 drop_ind l' (P := fun j r => ∀ (seen : S46 → S46 → Prop) (st : St), Best l l' seen st → Best l l' (fun x y => seen x y ∨ (x = l[i] ∧ y ∈ r)) (meetRow l[i] i r j st))
  (fun seen st h => h.mono (by simp))
  (fun j hj ih seen st h => (ih _ _ (h.one hi hj)).mono (by
   rintro x y (h | ⟨rfl, h⟩)
   ·exact .inl (.inl h)
   ·rcases List.mem_cons.1 h with rfl | h
    ·exact .inl (.inr ⟨rfl, rfl⟩)
    ·exact .inr ⟨rfl, h⟩))
theorem Best.all {l l' : List S46} : ∀ i : Nat, i ≤ l.length → ∀ (seen : S46 → S46 → Prop) (st : St), Best l l' seen st → Best l l' (fun x y => seen x y ∨ (x ∈ l.drop i ∧ y ∈ l')) (meetAll l' (l.drop i) i st) :=
 drop_ind l (P := fun i r => ∀ (seen : S46 → S46 → Prop) (st : St), Best l l' seen st → Best l l' (fun x y => seen x y ∨ (x ∈ r ∧ y ∈ l')) (meetAll l' r i st))
  (fun seen st h => h.mono (by simp))
  (fun i hi ih seen st h => (ih _ _ (Best.row hi 0 (by omega) seen st h)).mono (by
   rintro x y (h | ⟨h, h'⟩)
   ·exact .inl (.inl h)
   ·rcases List.mem_cons.1 h with rfl | h
    ·exact .inl (.inr ⟨rfl, h'⟩)
    ·exact .inr ⟨h, h'⟩))
theorem best (l l' : List S46) : Best l l' (fun x y => x ∈ l ∧ y ∈ l') (meetSt l l') :=
 (Best.all (l := l) (l' := l') 0 (by omega) (fun _ _ => False) none (fun _ _ h => h.elim)).mono (fun _ _ h => .inr h)
theorem bNear_bounds {x y : S46} (hx : bOk x = true) (hy : bOk y = true) (hn : (bNear x y).2 = true) : 0 ≤ (bNear x y).1 ∧ (bNear x y).1 ≤ 10000 := by
 have h := bOk_bounds hx
 have h' := bOk_bounds hy
 revert hn
 simp only [bNear, near, mx]
 grind
theorem bl_irrefl : ∀ x : List UInt8, Op.bytesLess x x = false
  | [] => rfl
  | a :: x => by simp [Op.bytesLess, bl_irrefl x]
theorem bl_trans : ∀ x y z : List UInt8, Op.bytesLess x y = true → Op.bytesLess y z = true → Op.bytesLess x z = true
  | _, _, [], _, h => by simp [Op.bytesLess] at h
  | _, [], _ :: _, h, _ => by simp [Op.bytesLess] at h
  | [], _ :: _, _ :: _, _, _ => by simp [Op.bytesLess]
  | a :: x, b :: y, c :: z, h, h' => by
    simp only [Op.bytesLess, Bool.or_eq_true, decide_eq_true_eq, Bool.and_eq_true, beq_iff_eq] at h h' ⊢
    rcases h with h | ⟨rfl, h⟩
    · rcases h' with h' | ⟨rfl, h'⟩
      · exact .inl (UInt8.lt_trans h h')
      · exact .inl h
    · rcases h' with h' | ⟨rfl, h'⟩
      · exact .inl h'
      · exact .inr ⟨rfl, bl_trans x y z h h'⟩
theorem sky_pw : ∀ {l : List S33} {p : Option ByteArray}, skyFrom p l = true → (∀ n, p = some n → ∀ t ∈ l, lt n t.f0 = true) ∧ l.Pairwise (fun a b => lt a.f0 b.f0 = true)
  | [], _, _ => ⟨fun _ _ t ht => by simp at ht, List.Pairwise.nil⟩
  | t :: r, p, h => by
    simp only [skyFrom, Bool.and_eq_true] at h
    obtain ⟨⟨_, h1⟩, h2⟩ := h
    have ih := sky_pw h2
    refine ⟨fun n hn u hu => ?_, List.Pairwise.cons (fun u hu => ih.1 t.f0 rfl u hu) ih.2⟩
    subst hn
    rcases List.mem_cons.1 hu with rfl | hu
    · exact h1
    · exact bl_trans _ _ _ h1 (ih.1 t.f0 rfl u hu)
theorem sky_of_pw : ∀ {l : List S33} {p : Option ByteArray}, (∀ n, p = some n → ∀ t ∈ l, lt n t.f0 = true) → l.Pairwise (fun a b => lt a.f0 b.f0 = true) → (∀ t ∈ l, tubeOk t.f0 t.f1 = true) → skyFrom p l = true
  | [], _, _, _, _ => rfl
  | t :: r, p, h, hp, ho => by
    obtain ⟨h1, h2⟩ := List.pairwise_cons.1 hp
    simp only [skyFrom, Bool.and_eq_true]
    refine ⟨⟨ho t (by simp), ?_⟩, sky_of_pw (p := some t.f0) (fun n hn u hu => ?_) h2 (fun u hu => ho u (by simp [hu]))⟩
    · cases p with
      | none => rfl
      | some n => exact h n rfl t (by simp)
    · injection hn with hn
      subst hn
      exact h1 u hu
theorem skyPw {L : List S33} (h : skyOk L = true) : L.Pairwise (fun a b => lt a.f0 b.f0 = true) := by
  simp only [skyOk, Bool.and_eq_true] at h
  exact (sky_pw h.2).2
theorem sky_sub {L M : List S33} (h : skyOk L = true) (hs : M.Sublist L) : skyOk M = true := by
  have h1 := sky_len h
  have h2 := hs.length_le
  simp only [skyOk, Bool.and_eq_true, decide_eq_true_eq]
  exact ⟨by omega, sky_of_pw (fun n hn => nomatch hn) ((skyPw h).sublist hs) (fun t ht => h1.2 t (hs.subset ht))⟩
theorem asc_of {L : List S33} (h : skyOk L = true) (s : ByteArray) : Asc L s := by
  have hp := List.pairwise_iff_getElem.1 (skyPw h)
  intro b hb a ha h0
  rw [rd39 (show a < L.length by omega)] at h0
  rw [rd39 hb]
  cases e : Op.bytesLess L[b].f0.toList s.toList with
  | false => rfl
  | true =>
    by_cases hab : a = b
    · subst hab
      rw [e] at h0
      cases h0
    have := bl_trans _ _ _ (hp a b (by omega) hb (by omega)) e
    rw [h0] at this
    cases this
theorem copy_tube {s : ByteArray} {l : List S46} (hl : l.length ≤ 1000) : impl_copyTube.f s l = some (s, l) := by
  unfold impl_copyTube.f
  simp only [Option.bind_some]
  rw [if_pos (by simp; omega)]
  simp
theorem copy_tubes_l {L : List S33} (h : skyOk L = true) : ∀ i : Nat, i ≤ L.length → ∀ acc : List S33, acc.length ≤ i → Ev (fun k => impl_copyTubes.l0 k acc L (L.length : Int) (i : Int)) (acc ++ L.drop i) :=
  drop_ind L (P := fun i r => ∀ acc : List S33, acc.length ≤ i → Ev (fun k => impl_copyTubes.l0 k acc L (L.length : Int) (i : Int)) (acc ++ r))
    (fun acc _ => Ev.step (f := fun _ => some acc) (fun k => by simp only [impl_copyTubes.l0]; rw [if_neg (by omega)]) (Ev.is (by simp)))
    (fun i hi ih acc ha => by
      have hk := sky_len h
      have hx := (len_of_tube (hk.2 _ (List.getElem_mem hi))).1
      refine Ev.step (f := fun k => impl_copyTubes.l0 k (acc ++ [L[i]]) L (L.length : Int) ((i + 1 : Nat) : Int)) (fun k => ?_) (Ev.eq (ih (acc ++ [L[i]]) (by simp; omega)) (by simp))
      simp only [impl_copyTubes.l0]
      rw [if_pos (by omega), if_pos (by omega), if_pos (by omega), rd39 hi, copy_tube (by omega), w64 hi (by omega)]
      simp only [Option.bind_some]
      rw [if_pos (by omega)])
theorem copy_tubes {L : List S33} (h : skyOk L = true) : Ev (fun k => impl_copyTubes.f k L) L := by
  unfold impl_copyTubes.f
  exact copy_tubes_l h 0 (by omega) [] (by simp)
def place (L : List S33) (s : ByteArray) : Nat := L.findIdx fun t => !(Op.bytesLess t.f0.toList s.toList)
def isThere (L : List S33) (s : ByteArray) : Bool := decide (place L s < L.length) && ((rd_T33 L (place L s : Int)).f0.toList == s.toList)
def happen (L : List S33) (d : Bool) (s : ByteArray) (l : List S46) : List S33 × Int :=
  if skyOk L = true then
    if d = true then (if isThere L s = true then (L.eraseIdx (place L s), 0) else (L, 3))
    else if tubeOk s l = true then
      (if isThere L s = true then (L.set (place L s) ⟨s, l⟩, 0) else if L.length = 24 then (L, 4) else (L.take (place L s) ++ ⟨s, l⟩ :: L.drop (place L s), 0))
    else (L, 2)
  else ([], 1)
def Small (L : List S33) : Prop := L.length ≤ 100 ∧ ∀ x ∈ L, x.f1.length ≤ 1000
theorem small_sky {L : List S33} (h : skyOk L = true) : Small L := by
  have hk := sky_len h
  exact ⟨by omega, fun x hx => by have := (len_of_tube (hk.2 x hx)).1; omega⟩
theorem place_le (L : List S33) (s : ByteArray) : place L s ≤ L.length := List.findIdx_le_length
theorem search_place {L : List S33} (h : skyOk L = true) (s : ByteArray) : impl_search.f (L.length : Int) L s = some (place L s : Int) := by
  have hl := (sky_len h).1
  unfold impl_search.f
  rw [if_pos ⟨rfl, by omega, asc_of h _⟩]
  rfl
theorem impl_happen (L : List S33) (d : Bool) (s : ByteArray) (l : List S46) : Ev (fun k => impl_ProbeHappen.f k L d s l) (happen L d s l) := by
  unfold impl_ProbeHappen.f
  refine Ev.bind (impl_sky L) ?_
  by_cases h : skyOk L = true
  rotate_left
  · exact Ev.neg h (Ev.is (by simp [happen, h]))
  have hl := (sky_len h).1
  have hp := place_le L s
  refine Ev.pos h (Ev.bind (copy_tubes h) ?_)
  simp only [search_place h s, Option.bind_some]
  have core : Ev (fun k => impl_ProbeHappen.j0 k L (place L s : Int) (isThere L s) L d s l) (happen L d s l) := by
    cases d with
    | true =>
      refine Ev.step (fun k => impl_ProbeHappen.j0.eq_2 ..) (Ev.pos rfl ?_)
      refine Ev.step (fun k => impl_ProbeHappen.j1.eq_2 ..) (Ev.neg (by simp) (Ev.pos rfl ?_))
      refine Ev.step (fun k => impl_ProbeHappen.j2.eq_2 ..) ?_
      by_cases ht : isThere L s = true
      · have hpl : place L s < L.length := by
          simp only [isThere, Bool.and_eq_true, decide_eq_true_eq] at ht
          exact ht.1
        have hw := w64 hpl (show L.length ≤ 9223372036854775807 by omega)
        refine Ev.neg (by simp [ht]) (Ev.pos rfl (Ev.pos (by omega) (Ev.pos (by omega) (Ev.pos (by omega) (Ev.pos (by omega) (Ev.is ?_))))))
        simp [happen, h, ht]
      · exact Ev.pos (by simpa using ht) (Ev.is (by simp [happen, h, ht]))
    | false =>
      refine Ev.step (fun k => impl_ProbeHappen.j0.eq_2 ..) (Ev.neg (by simp) (Ev.bind (impl_tube s l) ?_))
      refine Ev.step (fun k => impl_ProbeHappen.j1.eq_2 ..) ?_
      by_cases ho : tubeOk s l = true
      · have hll := (len_of_tube ho).1
        refine Ev.neg (by simp [ho]) (Ev.neg (by simp) ?_)
        refine Ev.step (fun k => impl_ProbeHappen.j2.eq_2 ..) (Ev.neg (by simp) (Ev.neg (by simp) ?_))
        by_cases ht : isThere L s = true
        · have hpl : place L s < L.length := by
            simp only [isThere, Bool.and_eq_true, decide_eq_true_eq] at ht
            exact ht.1
          refine Ev.pos ht ?_
          simp only [copy_tube (s := s) (l := l) (by omega), Option.bind_some]
          exact Ev.pos (by omega) (Ev.pos (by omega) (Ev.is (by simp [happen, h, ht, ho])))
        · refine Ev.neg ht ?_
          by_cases h24 : (L.length : Int) = 24
          · exact Ev.pos h24 (Ev.is (by simp [happen, h, ht, ho, show L.length = 24 by omega]))
          · refine Ev.neg h24 ?_
            simp only [copy_tube (s := s) (l := l) (by omega), Option.bind_some]
            exact Ev.pos (by omega) (Ev.pos (by omega) (Ev.pos (by omega) (Ev.is (by simp [happen, h, ht, ho, show ¬ L.length = 24 by omega]))))
      · exact Ev.pos (by simpa using ho) (Ev.is (by simp [happen, h, ho]))
  by_cases hpl : place L s < L.length
  · refine Ev.pos (by omega) (Ev.pos (by omega) (Ev.congr (fun k => ?_) core))
    congr 1
    simp [isThere, hpl]
  refine Ev.neg (by omega) (Ev.congr (fun k => ?_) core)
  congr 1
  simp [isThere, hpl]

theorem copy2 {s : ByteArray} {l : List S46} (hl : l.length ≤ 1000) : spec_l2Copy.f s l = some (s, l) := by
  unfold spec_l2Copy.f
  simp only [Option.bind_some]
  rw [if_pos (by simp; omega)]
  simp
theorem list_l {L : List S33} (h : Small L) : ∀ i : Nat, i ≤ L.length → ∀ acc : List S33, acc.length ≤ i → Ev (fun k => spec_l2List.l0 k L acc (i : Int)) (acc ++ L.drop i) :=
  drop_ind L (P := fun i r => ∀ acc : List S33, acc.length ≤ i → Ev (fun k => spec_l2List.l0 k L acc (i : Int)) (acc ++ r))
    (fun acc _ => Ev.step (f := fun _ => some acc) (fun k => by simp only [spec_l2List.l0]; rw [if_neg (by omega)]) (Ev.is (by simp)))
    (fun i hi ih acc ha => by
      have hk := h.1
      have hx := h.2 _ (List.getElem_mem hi)
      refine Ev.step (f := fun k => spec_l2List.l0 k L (acc ++ [L[i]]) ((i + 1 : Nat) : Int)) (fun k => ?_) (Ev.eq (ih (acc ++ [L[i]]) (by simp; omega)) (by simp))
      simp only [spec_l2List.l0]
      rw [if_pos (by omega), if_pos (by omega), rd39 hi, copy2 hx, w64 hi (by omega)]
      simp only [Option.bind_some]
      rw [if_pos (by omega)])
theorem list_ev {L : List S33} (h : Small L) : Ev (fun k => spec_l2List.f k L) L := by
  unfold spec_l2List.f
  exact list_l h 0 (by omega) [] (by simp)
def atOf (L : List S33) (s : ByteArray) : Int := if isThere L s = true then (place L s : Int) else -1
theorem less_below {L : List S33} {s : ByteArray} {i : Nat} (hi : i < L.length) (h : i < place L s) : Op.bytesLess L[i].f0.toList s.toList = true := by
  have := List.not_of_lt_findIdx (p := fun t : S33 => !(Op.bytesLess t.f0.toList s.toList)) (xs := L) (i := i) h
  simpa using this
theorem not_less_at {L : List S33} {s : ByteArray} (h : place L s < L.length) : Op.bytesLess (L[place L s]'h).f0.toList s.toList = false := by
  have := List.findIdx_getElem (p := fun t : S33 => !(Op.bytesLess t.f0.toList s.toList)) (xs := L) (w := h)
  simp only [Bool.not_eq_true'] at this
  exact this
theorem name_ne {L : List S33} (h : skyOk L = true) {s : ByteArray} {i : Nat} (hi : i < L.length) (ha : (i : Int) ≠ atOf L s) : L[i].f0.toList ≠ s.toList := by
  intro e
  have hp := List.pairwise_iff_getElem.1 (skyPw h)
  have hnl : ¬ i < place L s := fun hlt => by
    have := less_below hi hlt
    rw [e, bl_irrefl] at this
    cases this
  have hpl : place L s < L.length := by omega
  by_cases hip : i = place L s
  · have ht : isThere L s = true := by
      simp only [isThere, Bool.and_eq_true, decide_eq_true_eq, beq_iff_eq]
      refine ⟨hpl, ?_⟩
      rw [rd39 hpl]
      have : L[place L s] = L[i] := by congr 1; exact hip.symm
      rw [this]; exact e
    exact ha (by rw [atOf, if_pos ht]; omega)
  have h1 := hp (place L s) i hpl hi (by omega)
  have h2 := not_less_at hpl
  unfold lt at h1
  rw [e] at h1
  rw [h1] at h2
  cases h2
theorem at_l {L : List S33} (h : skyOk L = true) (s : ByteArray) : ∀ i : Nat, i ≤ L.length → ((i : Int) ≤ atOf L s ∨ isThere L s = false) → Ev (fun k => spec_l6At.l0 k L s (i : Int)) (atOf L s) :=
  drop_ind L (P := fun i _ => ((i : Int) ≤ atOf L s ∨ isThere L s = false) → Ev (fun k => spec_l6At.l0 k L s (i : Int)) (atOf L s))
    (fun hc => by
      refine Ev.step (f := fun _ => some (-1)) (fun k => by simp only [spec_l6At.l0]; rw [if_neg (by omega)]) (Ev.is ?_)
      have : isThere L s = false := hc.elim (fun hle => by
        cases ht : isThere L s with
        | false => rfl
        | true =>
          have hpl : place L s < L.length := by
            simp only [isThere, Bool.and_eq_true, decide_eq_true_eq] at ht
            exact ht.1
          rw [atOf, if_pos ht] at hle
          omega) id
      rw [atOf, if_neg (by simp [this])])
    (fun i hi ih hc => by
      have hl := (sky_len h).1
      by_cases he : L[i].f0.toList = s.toList
      · have : (i : Int) = atOf L s := by
          by_cases hne : (i : Int) = atOf L s
          · exact hne
          · exact absurd he (name_ne h hi hne)
        refine Ev.step (f := fun _ => some (i : Int)) (fun k => ?_) (Ev.is (by rw [this]))
        simp only [spec_l6At.l0]
        rw [if_pos (by omega), if_pos (by omega), rd39 hi, if_pos he]
      · refine Ev.step (f := fun k => spec_l6At.l0 k L s ((i + 1 : Nat) : Int)) (fun k => ?_) (ih ?_)
        · simp only [spec_l6At.l0]
          rw [if_pos (by omega), if_pos (by omega), rd39 hi, if_neg he, w64 hi (by omega)]
        · rcases hc with hc | hc
          · by_cases ht : isThere L s = true
            · left
              have hpl : place L s < L.length ∧ (rd_T33 L (place L s : Int)).f0.toList = s.toList := by
                simpa only [isThere, Bool.and_eq_true, decide_eq_true_eq, beq_iff_eq] using ht
              rw [atOf, if_pos ht] at hc ⊢
              rw [rd39 hpl.1] at hpl
              have hne : i ≠ place L s := fun e => he (by have : L[i] = L[place L s]'hpl.1 := by congr 1
                                                          rw [this]; exact hpl.2)
              omega
            · right
              simpa using ht
          · exact .inr hc)
theorem at_ev {L : List S33} (h : skyOk L = true) (s : ByteArray) : Ev (fun k => spec_l6At.f k L s) (atOf L s) := by
  unfold spec_l6At.f
  refine at_l h s 0 (by omega) ?_
  by_cases ht : isThere L s = true
  · left; rw [atOf, if_pos ht]; omega
  · right; simpa using ht
def skipL (A : Int) : Nat → List S33 → List S33
  | _, [] => []
  | i, x :: r => if (i : Int) = A then skipL A (i + 1) r else x :: skipL A (i + 1) r
theorem skip_none {A : Int} : ∀ (r : List S33) (i : Nat), (∀ j : Nat, i ≤ j → (j : Int) ≠ A) → skipL A i r = r
  | [], _, _ => rfl
  | x :: r, i, h => by rw [skipL, if_neg (h i (Nat.le_refl _)), skip_none r (i + 1) (fun j hj => h j (by omega))]
theorem skip_at : ∀ (r : List S33) (i p : Nat), skipL ((i + p : Nat) : Int) i r = r.eraseIdx p
  | [], _, _ => rfl
  | x :: r, i, 0 => by rw [skipL, if_pos (by omega), skip_none r (i + 1) (fun j hj => by omega), List.eraseIdx_zero, List.tail_cons]
  | x :: r, i, p + 1 => by
    have := skip_at r (i + 1) p
    rw [skipL, if_neg (by omega), List.eraseIdx_cons_succ, ← this]
    congr 2
    omega
theorem done_l {L : List S33} (h : skyOk L = true) (A : Int) (d : Bool) (s : ByteArray) (l : List S46) : ∀ i : Nat, i ≤ L.length → ∀ acc : List S33, acc.length ≤ i + 1 → (∀ x ∈ acc, x.f1.length ≤ 1000) →
    Ev (fun k => spec_ProbeHappen.l0 k L A acc true (i : Int) d s l) (acc ++ skipL A i (L.drop i), 0) :=
  drop_ind L (P := fun i r => ∀ acc : List S33, acc.length ≤ i + 1 → (∀ x ∈ acc, x.f1.length ≤ 1000) → Ev (fun k => spec_ProbeHappen.l0 k L A acc true (i : Int) d s l) (acc ++ skipL A i r, 0))
    (fun acc ha hb => by
      have hl := (sky_len h).1
      refine Ev.step (fun k => spec_ProbeHappen.l0.eq_2 ..) (Ev.neg (by omega) (Ev.pos rfl (Ev.bind (list_ev ⟨by omega, hb⟩) (Ev.is (by simp [skipL])))))
    )
    (fun i hi ih acc ha hb => by
      have hk := sky_len h
      have hx := (len_of_tube (hk.2 _ (List.getElem_mem hi))).1
      refine Ev.step (fun k => spec_ProbeHappen.l0.eq_2 ..) (Ev.pos (by omega) (Ev.pos rfl ?_))
      refine Ev.step (fun k => spec_ProbeHappen.j4.eq_2 ..) (Ev.neg (by simp) ?_)
      have hw := w64 hi (show L.length ≤ 9223372036854775807 by omega)
      by_cases hA : (i : Int) = A
      · refine Ev.pos hA ?_
        rw [hw, skipL, if_pos hA]
        exact ih acc (by omega) hb
      · refine Ev.neg hA (Ev.pos (by omega) (Ev.pos (by omega) (Ev.pos (by omega) ?_)))
        rw [hw, rd39 hi, skipL, if_neg hA]
        refine Ev.eq (ih (acc ++ [L[i]]) (by simp; omega) (fun x hx' => ?_)) (by simp)
        rcases List.mem_append.1 hx' with hx' | hx'
        · exact hb x hx'
        · rw [List.mem_singleton.1 hx']; omega)
theorem put_l {L : List S33} (h : skyOk L = true) {s : ByteArray} {l : List S46} {R : List S33 × Int}
    (hR : Ev (fun k => spec_ProbeHappen.l0 k L (atOf L s) (L.take (place L s)) false (place L s : Int) false s l) R) :
    ∀ m i : Nat, i + m = place L s → Ev (fun k => spec_ProbeHappen.l0 k L (atOf L s) (L.take i) false (i : Int) false s l) R := by
  intro m
  induction m with
  | zero =>
    intro i hi
    obtain rfl : i = place L s := by omega
    exact hR
  | succ m ih =>
    intro i hi
    have hk := sky_len h
    have hpl := place_le L s
    have hil : i < L.length := by omega
    have hne : (i : Int) ≠ atOf L s := by
      unfold atOf
      split <;> omega
    have hw := w64 hil (show L.length ≤ 9223372036854775807 by omega)
    refine Ev.step (fun k => spec_ProbeHappen.l0.eq_2 ..) (Ev.pos (by omega) (Ev.neg (by simp) (Ev.pos (by omega) ?_)))
    rw [rd39 hil, less_below hil (by omega)]
    refine Ev.step (fun k => spec_ProbeHappen.j4.eq_2 ..) (Ev.neg (by simp) (Ev.neg hne (Ev.pos (by omega) (Ev.pos (by omega) (Ev.pos (by rw [List.length_take]; omega) ?_)))))
    rw [hw, rd39 hil]
    have := ih (i + 1) (by omega)
    rw [List.take_succ_eq_append_getElem hil] at this
    exact this
theorem spec_happen (L : List S33) (d : Bool) (s : ByteArray) (l : List S46) : Ev (fun k => spec_ProbeHappen.f k L d s l) (happen L d s l) := by
  unfold spec_ProbeHappen.f
  refine Ev.bind (spec_sky L) ?_
  by_cases h : skyOk L = true
  · have hk := sky_len h
    have hs := small_sky h
    have hp := place_le L s
    refine Ev.pos h ?_
    cases d with
    | true =>
      refine Ev.pos rfl (Ev.step (fun k => spec_ProbeHappen.j0.eq_2 ..) (Ev.neg (by simp) (Ev.bind (at_ev h s) (Ev.pos rfl ?_))))
      refine Ev.step (fun k => spec_ProbeHappen.j1.eq_2 ..) ?_
      by_cases ht : isThere L s = true
      · refine Ev.neg (by rw [atOf, if_pos ht]; simp) (Ev.pos rfl ?_)
        refine Ev.step (fun k => spec_ProbeHappen.j2.eq_2 ..) (Ev.neg (by simp) ?_)
        refine Ev.eq (done_l h (atOf L s) true s l 0 (by omega) [] (by simp) (by simp)) ?_
        have := skip_at L 0 (place L s)
        rw [Nat.zero_add] at this
        rw [atOf, if_pos ht, List.drop_zero, List.nil_append, this]
        simp [happen, h, ht]
      · exact Ev.pos (by rw [atOf, if_neg ht]; simp) (Ev.bind (list_ev hs) (Ev.is (by simp [happen, h, ht])))
    | false =>
      refine Ev.neg (by simp) (Ev.bind (spec_tube s l) (Ev.step (fun k => spec_ProbeHappen.j0.eq_2 ..) ?_))
      by_cases ho : tubeOk s l = true
      · have hll := (len_of_tube ho).1
        refine Ev.neg (by simp [ho]) (Ev.bind (at_ev h s) (Ev.neg (by simp) ?_))
        refine Ev.step (fun k => spec_ProbeHappen.j1.eq_2 ..) (Ev.neg (by simp) (Ev.neg (by simp) ?_))
        have put : ∀ R, Ev (fun k => spec_ProbeHappen.l0 k L (atOf L s) (L.take (place L s)) false (place L s : Int) false s l) R → Ev (fun k => spec_ProbeHappen.j2 k L (atOf L s) false false s l) R := fun R hR =>
          Ev.step (fun k => spec_ProbeHappen.j2.eq_2 ..) (Ev.neg (by simp) (put_l h hR (place L s) 0 (by omega)))
        have hbt : ∀ x ∈ L.take (place L s) ++ [(⟨s, l⟩ : S33)], x.f1.length ≤ 1000 := fun x hx => by
          rcases List.mem_append.1 hx with hx | hx
          · exact hs.2 x (List.mem_of_mem_take hx)
          · rw [List.mem_singleton.1 hx]; simp only; omega
        have hlt : (L.take (place L s)).length = place L s := by rw [List.length_take]; omega
        by_cases ht : isThere L s = true
        · have hpl : place L s < L.length := by
            simp only [isThere, Bool.and_eq_true, decide_eq_true_eq] at ht
            exact ht.1
          have hA : atOf L s = (place L s : Int) := by rw [atOf, if_pos ht]
          refine Ev.neg (by rw [hA]; omega) (put _ ?_)
          have hw := w64 hpl (show L.length ≤ 9223372036854775807 by omega)
          refine Ev.step (fun k => spec_ProbeHappen.l0.eq_2 ..) (Ev.pos (by omega) (Ev.neg (by simp) (Ev.pos (by omega) ?_)))
          rw [rd39 hpl, not_less_at hpl]
          refine Ev.step (fun k => spec_ProbeHappen.j4.eq_2 ..) (Ev.pos rfl (Ev.pos (by omega) ?_))
          simp only [Option.bind_some]
          refine Ev.pos hA.symm ?_
          rw [hw]
          refine Ev.eq (done_l h (atOf L s) false s l (place L s + 1) (by omega) _ (by rw [List.length_append, hlt, List.length_singleton]; omega) hbt) ?_
          rw [skip_none _ _ (fun j hj => by rw [hA]; omega)]
          simp [happen, h, ht, ho, List.set_eq_take_append_cons_drop, hpl]
        · have hA : atOf L s = -1 := by rw [atOf, if_neg ht]
          refine Ev.pos (by rw [hA]; omega) ?_
          by_cases h24 : L.length = 24
          · rw [show (decide ((L.length : Int) ≥ 24)) = true from decide_eq_true (by omega)]
            exact Ev.step (fun k => spec_ProbeHappen.j2.eq_2 ..) (Ev.pos rfl (Ev.bind (list_ev hs) (Ev.is (by simp [happen, h, ht, ho, h24]))))
          · rw [show (decide ((L.length : Int) ≥ 24)) = false from decide_eq_false (by omega)]
            refine put _ ?_
            have hres : happen L false s l = (L.take (place L s) ++ ⟨s, l⟩ :: L.drop (place L s), 0) := by simp [happen, h, ht, ho, h24]
            by_cases hpl : place L s < L.length
            · have hw := w64 hpl (show L.length ≤ 9223372036854775807 by omega)
              refine Ev.step (fun k => spec_ProbeHappen.l0.eq_2 ..) (Ev.pos (by omega) (Ev.neg (by simp) (Ev.pos (by omega) ?_)))
              rw [rd39 hpl, not_less_at hpl]
              refine Ev.step (fun k => spec_ProbeHappen.j4.eq_2 ..) (Ev.pos rfl (Ev.pos (by omega) ?_))
              simp only [Option.bind_some]
              refine Ev.neg (by rw [hA]; omega) (Ev.pos (by omega) (Ev.pos (by omega) (Ev.pos (by rw [List.length_append, hlt, List.length_singleton]; omega) ?_)))
              rw [hw, rd39 hpl]
              refine Ev.eq (done_l h (atOf L s) false s l (place L s + 1) (by omega) _ (by rw [List.length_append, List.length_append, hlt, List.length_singleton, List.length_singleton]; omega) (fun x hx => ?_)) ?_
              · rcases List.mem_append.1 hx with hx | hx
                · exact hbt x hx
                · rw [List.mem_singleton.1 hx]; exact hs.2 _ (List.getElem_mem hpl)
              · rw [skip_none _ _ (fun j hj => by rw [hA]; omega), hres]
                simp
                exact (List.drop_eq_getElem_cons hpl).symm
            · have hpe : place L s = L.length := by omega
              refine Ev.step (fun k => spec_ProbeHappen.l0.eq_2 ..) (Ev.neg (by omega) (Ev.neg (by simp) (Ev.pos (by omega) (Ev.bind (list_ev ⟨by rw [List.length_append, hlt, List.length_singleton]; omega, hbt⟩) (Ev.is ?_)))))
              rw [hres, hpe, List.drop_length]
      · exact Ev.pos (by simpa using ho) (Ev.bind (list_ev hs) (Ev.is (by simp [happen, h, ho])))
  · exact Ev.neg h (Ev.is (by simp [happen, h]))
def cutM (c : UInt8) : List UInt8 → List (List UInt8)
  | [] => [[]]
  | b :: l => if b = c then [] :: cutM c l else (b :: (cutM c l).headD []) :: (cutM c l).tail
theorem cutM_ne (c : UInt8) : ∀ l, cutM c l ≠ []
  | [] => by simp [cutM]
  | b :: l => by unfold cutM; split <;> simp
theorem cutM_none {c : UInt8} : ∀ {l : List UInt8}, (∀ b ∈ l, b ≠ c) → cutM c l = [l]
  | [], _ => rfl
  | b :: l, h => by
    unfold cutM
    rw [if_neg (h b (by simp)), cutM_none (fun x hx => h x (by simp [hx]))]
    rfl
theorem cutM_hit {c : UInt8} {r : List UInt8} : ∀ {p : List UInt8}, (∀ b ∈ p, b ≠ c) → cutM c (p ++ c :: r) = p :: cutM c r
  | [], _ => by simp [cutM]
  | b :: p, h => by
    rw [List.cons_append]
    conv => lhs; unfold cutM
    rw [if_neg (h b (by simp)), cutM_hit (fun x hx => h x (by simp [hx]))]
    rfl
theorem index_byte_cases (l : List UInt8) (c : UInt8) : (Lib.index l [c] = -1 ∧ ∀ b ∈ l, b ≠ c) ∨ ∃ i : Nat, Lib.index l [c] = i ∧ i < l.length ∧ (∀ b ∈ l.take i, b ≠ c) ∧ l = l.take i ++ c :: l.drop (i + 1) := by
  rw [Lib.index_one]
  rcases Lib.index_spec l [c] with ⟨h, _⟩ | ⟨i, h, _, _, _⟩
  · rw [Lib.index_one] at h
    refine Or.inl ⟨h, fun b hb e => ?_⟩
    obtain ⟨k, hk⟩ := List.getElem?_of_mem hb
    exact Lib.indexByte_none h k (e ▸ hk)
  rw [Lib.index_one] at h
  obtain ⟨h1, h2⟩ := Lib.indexByte_some h
  obtain ⟨hi, he⟩ := List.getElem?_eq_some_iff.1 h1
  refine Or.inr ⟨i, h, hi, fun b hb e => ?_, ?_⟩
  · obtain ⟨k, hk⟩ := List.getElem?_of_mem hb
    obtain ⟨hk1, hk2⟩ := List.getElem?_eq_some_iff.1 hk
    rw [List.length_take] at hk1
    refine h2 k (by omega) ?_
    rw [List.getElem_take] at hk2
    rw [List.getElem?_eq_getElem (by omega), hk2, e]
  conv => lhs; rw [← List.take_append_drop i l, List.drop_eq_getElem_cons hi, he]
theorem splitK_cut (c : UInt8) : ∀ (k : Nat) (l : List UInt8), Lib.count l [c] = k → Lib.splitK [c] 0 k l = cutM c l
  | k, l, hk => by
    rcases index_byte_cases l c with ⟨h, hn⟩ | ⟨i, h, hi, hn, he⟩
    · rw [cutM_none hn]
      cases k with
      | zero => rfl
      | succ k => unfold Lib.splitK; rw [h]; rfl
    · have hc := Lib.count_hit (s := l) (sub := [c]) (by simp) h
      cases k with
      | zero => omega
      | succ k =>
        have h1 : ¬ ((i : Int) == -1) = true := fun e => by have := beq_iff_eq.1 e; omega
        unfold Lib.splitK
        rw [h, if_neg h1]
        have hd : Lib.count (l.drop (i + 1)) [c] = k := by
          have : (l.drop (i + [c].length)) = l.drop (i + 1) := rfl
          rw [this] at hc
          omega
        have := splitK_cut c k (l.drop (i + 1)) hd
        conv => rhs; rw [he, cutM_hit hn]
        simp only [Int.toNat_natCast, Nat.add_zero, List.length_cons, List.length_nil, Nat.zero_add]
        rw [this]
theorem split_ev (s : ByteArray) (c : UInt8) (hs : s.size < 4294967281) : ∃ r, Lb.split.f s ⟨#[c]⟩ = some r ∧ r.map (·.data.toList) = cutM c s.data.toList := by
  refine ⟨_, by unfold Lb.split.f; rw [if_pos ⟨hs, Nat.le_refl 1⟩], ?_⟩
  rw [Lib.splitB_data]
  exact splitK_cut c _ _ rfl
theorem ext_list (s : ByteArray) (a b : Nat) : (s.extract a b).data.toList = (s.data.toList.drop a).take (b - a) := by
  rw [ByteArray.data_extract, Array.toList_extract, List.extract_eq_take_drop]
theorem byte_at {s : ByteArray} {i : Nat} (h : i < s.size) (h2 : i < s.data.toList.length) : bt s (i : Int) = ((s.data.toList[i]'h2).toNat : Int) := by
  unfold bt
  rw [dif_pos (by simpa using h)]
  simp
  rfl
def modHead (p : List UInt8) (L : List (List UInt8)) : List (List UInt8) := (p ++ L.headD []) :: L.tail
theorem modHead_nil {c : UInt8} (l : List UInt8) : modHead [] (cutM c l) = cutM c l := by
  unfold modHead
  have := cutM_ne c l
  cases h : cutM c l with
  | nil => exact absurd h this
  | cons a t => rfl
theorem cut_l (s : ByteArray) (c : UInt8) (hs : s.size ≤ 1048576) (d : Nat) : ∀ (i fr : Nat) (acc : List ByteArray), fr ≤ i → i ≤ s.size → s.size - i = d → acc.length ≤ i →
    ∃ R, Ev (fun k => spec_l7Cut.l0 k s (c.toNat : Int) acc (fr : Int) (i : Int)) (acc ++ R) ∧ R.map (·.data.toList) = modHead ((s.data.toList.drop fr).take (i - fr)) (cutM c (s.data.toList.drop i)) := by
  have hsz : s.data.toList.length = s.size := rfl
  induction d with
  | zero =>
    intro i fr acc hf hi hd ha
    obtain rfl : i = s.size := by omega
    refine ⟨[s.extract fr s.size], Ev.step (f := fun _ => some (acc ++ [s.extract fr s.size])) (fun k => ?_) (Ev.is rfl), ?_⟩
    · simp only [spec_l7Cut.l0]
      rw [if_neg (by omega), if_pos (by omega), if_pos (by omega), if_pos (by omega)]
      rfl
    rw [show s.data.toList.drop s.size = [] from List.drop_of_length_le (by omega)]
    simp [modHead, cutM, ext_list]
  | succ d ih =>
    intro i fr acc hf hi hd ha
    have hlt : i < s.size := by omega
    have hl2 : i < s.data.toList.length := by omega
    have hb := byte_at hlt hl2
    by_cases hc : s.data.toList[i] = c
    · obtain ⟨R, hR, hm⟩ := ih (i + 1) (i + 1) (acc ++ [s.extract fr i]) (Nat.le_refl _) (by omega) (by omega) (by rw [List.length_append]; simp; omega)
      refine ⟨s.extract fr i :: R, Ev.step (f := fun k => spec_l7Cut.l0 k s (c.toNat : Int) (acc ++ [s.extract fr i]) ((i + 1 : Nat) : Int) ((i + 1 : Nat) : Int)) (fun k => ?_) (Ev.eq hR (by simp)), ?_⟩
      · simp only [spec_l7Cut.l0]
        rw [if_pos (by omega), if_pos (by omega), if_pos (by rw [hb, hc]), if_pos (by omega), if_pos (by omega), if_pos (by omega), if_pos (by omega), w64 hlt (by omega)]
        rfl
      rw [List.map_cons, hm, Nat.sub_self, List.take_zero, modHead_nil, List.drop_eq_getElem_cons hl2, hc, ext_list]
      simp [modHead, cutM]
    obtain ⟨R, hR, hm⟩ := ih (i + 1) fr acc (by omega) (by omega) (by omega) (by omega)
    refine ⟨R, Ev.step (f := fun k => spec_l7Cut.l0 k s (c.toNat : Int) acc (fr : Int) ((i + 1 : Nat) : Int)) (fun k => ?_) hR, ?_⟩
    · simp only [spec_l7Cut.l0]
      rw [if_pos (by omega), if_pos (by omega), if_neg (by rw [hb]; intro e; exact hc (UInt8.toNat_inj.1 (by omega))), w64 hlt (by omega)]
    rw [hm, List.drop_eq_getElem_cons hl2]
    conv => rhs; unfold cutM
    rw [if_neg hc]
    have ht : (s.data.toList.drop fr).take (i + 1 - fr) = (s.data.toList.drop fr).take (i - fr) ++ [s.data.toList[i]] := by
      rw [show i + 1 - fr = (i - fr) + 1 from by omega, List.take_add_one, List.getElem?_drop, show fr + (i - fr) = i from by omega, List.getElem?_eq_getElem hl2]
      rfl
    rw [ht]
    simp [modHead]
theorem spec_cut_ev (s : ByteArray) (c : UInt8) (hs : s.size ≤ 1048576) : ∃ r, Ev (fun k => spec_l7Cut.f k s (c.toNat : Int)) r ∧ r.map (·.data.toList) = cutM c s.data.toList := by
  obtain ⟨R, hR, hm⟩ := cut_l s c hs s.size 0 0 [] (Nat.le_refl _) (Nat.zero_le _) (by omega) (Nat.zero_le _)
  refine ⟨R, hR, ?_⟩
  rw [hm, Nat.sub_self, List.take_zero, modHead_nil]
  rfl
theorem rows_inj {a b : List ByteArray} (h : a.map (·.data.toList) = b.map (·.data.toList)) : a = b := by
  refine List.map_inj_right (f := fun x : ByteArray => x.data.toList) (fun x y e => ?_) |>.1 h
  cases x; cases y
  simp only [ByteArray.mk.injEq]
  exact Array.toList_inj.1 e
theorem cut_same (s : ByteArray) (c : UInt8) (hs : s.size ≤ 1048576) : ∃ r, Lb.split.f s ⟨#[c]⟩ = some r ∧ Ev (fun k => spec_l7Cut.f k s (c.toNat : Int)) r ∧ r.map (·.data.toList) = cutM c s.data.toList := by
  obtain ⟨r, h1, h2⟩ := split_ev s c (by omega)
  obtain ⟨r', h3, h4⟩ := spec_cut_ev s c hs
  obtain rfl : r = r' := rows_inj (h2.trans h4.symm)
  exact ⟨r, h1, h3, h4⟩
def numS (s : ByteArray) : Option Nat := if (1 ≤ s.size ∧ s.size ≤ 5) ∧ ¬ (1 < s.size ∧ bt s 0 = 48) then Lib.decFrom 0 s.data.toList else none
def numI (s : ByteArray) : Int := match numS s with | some n => (n : Int) | none => -1
def numP (s : ByteArray) : Int × Bool := match numS s with | some n => ((n : Int), true) | none => (0, false)
theorem dec_step (b : UInt8) (r : List UInt8) (acc : Nat) : Lib.decFrom acc (b :: r) = if 48 ≤ b.toNat ∧ b.toNat ≤ 57 then Lib.decFrom (acc * 10 + (b.toNat - 48)) r else none := by
  by_cases h : 48 ≤ b.toNat ∧ b.toNat ≤ 57
  · rw [if_pos h]
    have e : Lib.digitVal b = some (b.toNat - 48) := if_pos h
    conv => lhs; unfold Lib.decFrom
    rw [e]
  rw [if_neg h]
  have e : Lib.digitVal b = none := if_neg h
  conv => lhs; unfold Lib.decFrom
  rw [e]
theorem wrS {x : Int} (h : -9223372036854775808 ≤ x) (h' : x ≤ 9223372036854775807) : wrap64 x = x := by
  unfold wrap64
  omega
theorem pow_bound {i acc : Nat} (hi : i ≤ 5) (h : acc < 10 ^ i) : acc < 100000 := Nat.lt_of_lt_of_le h (Nat.pow_le_pow_right (by decide) hi)
theorem spec_num_l (s : ByteArray) (hs : s.size ≤ 5) (d : Nat) : ∀ i acc : Nat, i ≤ s.size → s.size - i = d → acc < 10 ^ i →
    Ev (fun k => spec_l7Number.l0 k s (acc : Int) (i : Int)) (match Lib.decFrom acc (s.data.toList.drop i) with | some n => (n : Int) | none => -1) := by
  have hsz : s.data.toList.length = s.size := rfl
  induction d with
  | zero =>
    intro i acc hi hd ha
    rw [show s.data.toList.drop i = [] from List.drop_of_length_le (by omega)]
    refine Ev.step (f := fun _ => some (acc : Int)) (fun k => ?_) (Ev.is rfl)
    simp only [spec_l7Number.l0]
    rw [if_neg (by omega)]
  | succ d ih =>
    intro i acc hi hd ha
    have hlt : i < s.size := by omega
    have hl2 : i < s.data.toList.length := by omega
    have hb := byte_at hlt hl2
    have hp := pow_bound (by omega) ha
    rw [List.drop_eq_getElem_cons hl2, dec_step]
    have hr := bt_range s (i : Int)
    by_cases hc : 48 ≤ s.data.toList[i].toNat ∧ s.data.toList[i].toNat ≤ 57
    · rw [if_pos hc]
      have hn : acc * 10 + (s.data.toList[i].toNat - 48) < 10 ^ (i + 1) := by rw [Nat.pow_succ]; omega
      refine Ev.step (f := fun k => spec_l7Number.l0 k s ((acc * 10 + (s.data.toList[i].toNat - 48) : Nat) : Int) ((i + 1 : Nat) : Int)) (fun k => ?_) (ih (i + 1) _ (by omega) (by omega) hn)
      simp only [spec_l7Number.l0]
      rw [if_pos (by omega), if_pos (by omega), if_neg (by omega), if_neg (by omega), w64 hlt (by omega), hb, wrS (x := (acc : Int) * 10) (by omega) (by omega), wrS (x := ((s.data.toList[i].toNat : Nat) : Int)) (by omega) (by omega), wrS (x := (acc : Int) * 10 + ((s.data.toList[i].toNat : Nat) : Int)) (by omega) (by omega), wrS (by omega) (by omega)]
      rw [show (acc : Int) * 10 + ((s.data.toList[i].toNat : Nat) : Int) - 48 = ((acc * 10 + (s.data.toList[i].toNat - 48) : Nat) : Int) from by omega]
    rw [if_neg hc]
    refine Ev.step (f := fun _ => some (-1 : Int)) (fun k => ?_) (Ev.is rfl)
    simp only [spec_l7Number.l0]
    rw [if_pos (by omega), if_pos (by omega)]
    by_cases h1 : bt s (i : Int) < 48
    · rw [if_pos h1]
    rw [if_neg h1, if_pos (by omega)]
theorem spec_num (s : ByteArray) : Ev (fun k => spec_l7Number.f k s) (numI s) := by
  by_cases h : 1 ≤ s.size ∧ s.size ≤ 5
  · by_cases h2 : 1 < s.size ∧ bt s 0 = 48
    · refine Ev.congr (f := fun k => spec_l7Number.j0 k s true) (fun k => ?_) (Ev.step (f := fun _ => some (-1 : Int)) (fun k => by simp [spec_l7Number.j0]) (Ev.is (by unfold numI numS; rw [if_neg (fun hh => hh.2 h2)])))
      simp only [spec_l7Number.f, l1In_eq, Option.bind_some, decide_eq_true_eq]
      rw [if_pos (by omega), if_pos (by omega), if_pos (by omega), h2.2]
      rfl
    refine Ev.congr (f := fun k => spec_l7Number.j0 k s false) (fun k => ?_) (Ev.step (f := fun k => spec_l7Number.l0 k s ((0 : Nat) : Int) ((0 : Nat) : Int)) (fun k => by simp [spec_l7Number.j0]) (Ev.eq (spec_num_l s h.2 s.size 0 0 (Nat.zero_le _) rfl (by simp)) (by unfold numI numS; rw [if_pos ⟨h, h2⟩]; rfl)))
    simp only [spec_l7Number.f, l1In_eq, Option.bind_some, decide_eq_true_eq]
    rw [if_pos (by omega)]
    by_cases h3 : 1 < s.size
    · rw [if_pos (by omega), if_pos (by omega), show (bt s 0 == 48) = false from beq_eq_false_iff_ne.2 (fun e => h2 ⟨h3, e⟩)]
    rw [if_neg (by omega)]
  refine Ev.congr (f := fun k => spec_l7Number.j0 k s true) (fun k => ?_) (Ev.step (f := fun _ => some (-1 : Int)) (fun k => by simp [spec_l7Number.j0]) (Ev.is (by unfold numI numS; rw [if_neg (fun hh => h hh.1)])))
  simp only [spec_l7Number.f, l1In_eq, Option.bind_some, decide_eq_true_eq]
  rw [if_neg (by omega)]
theorem atoi_digits {l : List UInt8} {n : Nat} (hl : l ≠ []) (h : Lib.decFrom 0 l = some n) : Lib.atoi l = some (n : Int) := by
  cases l with
  | nil => exact absurd rfl hl
  | cons b r =>
    have hd : 48 ≤ b.toNat ∧ b.toNat ≤ 57 := by
      by_cases hc : 48 ≤ b.toNat ∧ b.toNat ≤ 57
      · exact hc
      · rw [dec_step, if_neg hc] at h; cases h
    have h1 : (b == 45) = false := beq_eq_false_iff_ne.2 (fun e => by rw [e] at hd; exact absurd hd.1 (by decide))
    have h2 : (b == 43) = false := beq_eq_false_iff_ne.2 (fun e => by rw [e] at hd; exact absurd hd.1 (by decide))
    unfold Lib.atoi
    simp only [h1, h2, Bool.false_eq_true, if_false]
    unfold Lib.decNat
    simp [h]
theorem impl_dec_l (s : ByteArray) (hs : s.size ≤ 5) (h1 : 1 ≤ s.size) (d : Nat) : ∀ i acc : Nat, i ≤ s.size → s.size - i = d → Lib.decFrom 0 s.data.toList = Lib.decFrom acc (s.data.toList.drop i) →
    Ev (fun k => impl_decimal.l0 k s (i : Int)) (match Lib.decFrom acc (s.data.toList.drop i) with | some n => ((n : Int), true) | none => (0, false)) := by
  have hsz : s.data.toList.length = s.size := rfl
  induction d with
  | zero =>
    intro i acc hi hd he
    rw [show s.data.toList.drop i = [] from List.drop_of_length_le (by omega)] at he ⊢
    have ha : Lb.atoi.f s = some (acc : Int) := by
      unfold Lb.atoi.f
      rw [if_pos (by omega)]
      exact atoi_digits (fun e => by rw [e] at hsz; simp at hsz; omega) he
    refine Ev.step (f := fun _ => some ((acc : Int), true)) (fun k => ?_) (Ev.is rfl)
    simp only [impl_decimal.l0]
    rw [if_neg (by omega), ha]
    rfl
  | succ d ih =>
    intro i acc hi hd he
    have hlt : i < s.size := by omega
    have hl2 : i < s.data.toList.length := by omega
    have hb := byte_at hlt hl2
    rw [List.drop_eq_getElem_cons hl2, dec_step] at he ⊢
    by_cases hc : 48 ≤ s.data.toList[i].toNat ∧ s.data.toList[i].toNat ≤ 57
    · rw [if_pos hc] at he ⊢
      refine Ev.step (f := fun k => impl_decimal.l0 k s ((i + 1 : Nat) : Int)) (fun k => ?_) (ih (i + 1) _ (by omega) (by omega) he)
      simp only [impl_decimal.l0]
      rw [if_pos (by omega), if_pos (by omega), if_neg (by omega), if_neg (by omega), w64 hlt (by omega)]
    rw [if_neg hc]
    refine Ev.step (f := fun _ => some ((0 : Int), false)) (fun k => ?_) (Ev.is rfl)
    simp only [impl_decimal.l0]
    rw [if_pos (by omega), if_pos (by omega)]
    by_cases h3 : bt s (i : Int) < 48
    · rw [if_pos h3]
    rw [if_neg h3, if_pos (by omega)]
theorem impl_dec (s : ByteArray) : Ev (fun k => impl_decimal.f k s) (numP s) := by
  by_cases h : 1 ≤ s.size ∧ s.size ≤ 5
  · by_cases h2 : 1 < s.size ∧ bt s 0 = 48
    · refine Ev.congr (f := fun k => impl_decimal.j0 k s true) (fun k => ?_) (Ev.step (f := fun _ => some ((0 : Int), false)) (fun k => by simp [impl_decimal.j0]) (Ev.is (by unfold numP numS; rw [if_neg (fun hh => hh.2 h2)])))
      simp only [impl_decimal.f, in_eq, Option.bind_some, decide_eq_true_eq]
      rw [if_pos (by omega), if_pos (by omega), if_pos (by omega), h2.2]
      rfl
    refine Ev.congr (f := fun k => impl_decimal.j0 k s false) (fun k => ?_) (Ev.step (f := fun k => impl_decimal.l0 k s ((0 : Nat) : Int)) (fun k => by simp [impl_decimal.j0]) (Ev.eq (impl_dec_l s h.2 h.1 s.size 0 0 (Nat.zero_le _) rfl rfl) (by unfold numP numS; rw [if_pos ⟨h, h2⟩]; rfl)))
    simp only [impl_decimal.f, in_eq, Option.bind_some, decide_eq_true_eq]
    rw [if_pos (by omega)]
    by_cases h3 : 1 < s.size
    · rw [if_pos (by omega), if_pos (by omega), show (bt s 0 == 48) = false from beq_eq_false_iff_ne.2 (fun e => h2 ⟨h3, e⟩)]
    rw [if_neg (by omega)]
  refine Ev.congr (f := fun k => impl_decimal.j0 k s true) (fun k => ?_) (Ev.step (f := fun _ => some ((0 : Int), false)) (fun k => by simp [impl_decimal.j0]) (Ev.is (by unfold numP numS; rw [if_neg (fun hh => h hh.1)])))
  simp only [impl_decimal.f, in_eq, Option.bind_some, decide_eq_true_eq]
  rw [if_neg (by omega)]
theorem num_cases (s : ByteArray) : (numS s = none ∧ numI s = -1 ∧ numP s = (0, false)) ∨ ∃ n : Nat, numS s = some n ∧ numI s = (n : Int) ∧ numP s = ((n : Int), true) := by
  unfold numI numP
  cases h : numS s with
  | none => exact Or.inl ⟨rfl, rfl, rfl⟩
  | some n => exact Or.inr ⟨n, rfl, rfl, rfl⟩
def decB (n : Nat) : ByteArray := ⟨(Lib.decDigits n).toArray⟩
theorem decDigits_le (n : Nat) : (Lib.decDigits n).length ≤ n + 1 := by
  induction n using Nat.strongRecOn with
  | ind n ih =>
    by_cases h : n < 10
    · rw [Lib.decDigits_one h]; simp
    have h1 := ih (n / 10) (by omega)
    rw [show Lib.decDigits n = Lib.decDigits (n / 10) ++ [UInt8.ofNat (48 + n % 10)] from by rw [Lib.decDigits, dif_neg h], List.length_append, List.length_singleton]
    omega
theorem decB_size (n : Nat) : (decB n).size = (Lib.decDigits n).length := by simp [decB, ByteArray.size]
theorem dec_one {n : Int} {m : Nat} (h : n = (m : Int)) (hm : m < 10) : strOfNums [wrap64 (48 + n) % 256] = ⟨([UInt8.ofNat (48 + m)] : List UInt8).toArray⟩ := by
  subst h
  rw [wrS (by omega) (by omega)]
  unfold strOfNums
  simp only [List.map_cons, List.map_nil]
  rw [show ((48 + (m : Int)) % 256).toNat = 48 + m from by omega]
theorem dec_itoa : ∀ n : Nat, n ≤ 1000000000 → Ev (fun k => spec_l7Dec.f k (n : Int)) (decB n)
  | n, hn => by
    by_cases h : n < 10
    · refine Ev.step (fun k => spec_l7Dec.f.eq_2 ..) (Ev.pos (by omega) (Ev.eq (Ev.now _) ?_))
      rw [dec_one rfl h]
      unfold decB
      rw [Lib.decDigits_one h]
    · have hd : wrap64 (Int.tdiv (n : Int) 10) = ((n / 10 : Nat) : Int) := by
        rw [Int.tdiv_eq_ediv_of_nonneg (by omega), wrS (by omega) (by omega)]
        omega
      have hr : Int.tmod (n : Int) 10 = ((n % 10 : Nat) : Int) := by
        rw [Int.tmod_eq_emod_of_nonneg (by omega)]
        omega
      have ih := dec_itoa (n / 10) (by omega)
      rw [← hd] at ih
      refine Ev.step (fun k => spec_l7Dec.f.eq_2 ..) (Ev.neg (by omega) (Ev.bind ih (Ev.bind (Ev.now _) (Ev.pos ?_ (Ev.eq (Ev.now _) ?_)))))
      · rw [decB_size, strOfNums_size]
        have := decDigits_le (n / 10)
        simp only [List.length_singleton]
        omega
      · rw [hr, dec_one rfl (Nat.mod_lt _ (by decide))]
        unfold decB
        rw [show Lib.decDigits n = Lib.decDigits (n / 10) ++ [UInt8.ofNat (48 + n % 10)] from by rw [Lib.decDigits, dif_neg h]]
        apply ByteArray.ext
        simp [ByteArray.data_append]
theorem itoa_ev (n : Nat) (hn : n ≤ 1000000000) : Lb.itoa.f (n : Int) = some (decB n) := by
  unfold Lb.itoa.f
  rw [if_pos (by omega)]
  unfold Lib.itoa decB
  rw [if_neg (by omega), Int.toNat_natCast]
def clB (a b : ByteArray) (t i j : Nat) : ByteArray := (((((((a ++ (⟨#[47]⟩ : ByteArray)) ++ b) ++ (⟨#[64]⟩ : ByteArray)) ++ decB t) ++ (⟨#[58]⟩ : ByteArray)) ++ decB i) ++ (⟨#[44]⟩ : ByteArray)) ++ decB j
theorem one_size (x : UInt8) : (⟨#[x]⟩ : ByteArray).size = 1 := rfl
theorem decB_le {n : Nat} (h : n ≤ 1000000000) : (decB n).size ≤ 1000000001 := by
  rw [decB_size]
  have := decDigits_le n
  omega
theorem impl_clash_eq {a b : ByteArray} {t i j : Nat} (ha : a.size ≤ 1000000000) (hb : b.size ≤ 1000000000) (ht : t ≤ 1000000000) (hi : i ≤ 1000000000) (hj : j ≤ 1000000000) : impl_clash.f a b (t : Int) (i : Int) (j : Int) = some (clB a b t i j) := by
  have h1 := decB_le ht
  have h2 := decB_le hi
  have h3 := decB_le hj
  unfold impl_clash.f
  simp only [itoa_ev t ht, itoa_ev i hi, itoa_ev j hj, Option.bind_some, ByteArray.size_append, one_size]
  rw [if_pos (by omega), if_pos (by omega), if_pos (by omega), if_pos (by omega), if_pos (by omega), if_pos (by omega), if_pos (by omega), if_pos (by omega)]
  rfl
theorem spec_clash_ev {a b : ByteArray} {t i j : Nat} (ha : a.size ≤ 1000000000) (hb : b.size ≤ 1000000000) (ht : t ≤ 1000000000) (hi : i ≤ 1000000000) (hj : j ≤ 1000000000) : Ev (fun k => spec_l7Clash.f k a b (t : Int) (i : Int) (j : Int)) (clB a b t i j) := by
  have h1 := decB_le ht
  have h2 := decB_le hi
  have h3 := decB_le hj
  unfold spec_l7Clash.f
  refine Ev.pos (by omega) (Ev.pos (by simp only [ByteArray.size_append, one_size]; omega) (Ev.pos (by simp only [ByteArray.size_append, one_size]; omega) (Ev.bind (dec_itoa t ht) ?_)))
  refine Ev.pos (by simp only [ByteArray.size_append, one_size]; omega) (Ev.pos (by simp only [ByteArray.size_append, one_size]; omega) (Ev.bind (dec_itoa i hi) ?_))
  refine Ev.pos (by simp only [ByteArray.size_append, one_size]; omega) (Ev.pos (by simp only [ByteArray.size_append, one_size]; omega) (Ev.bind (dec_itoa j hj) ?_))
  exact Ev.pos (by simp only [ByteArray.size_append, one_size]; omega) (Ev.now _)
theorem clB_size {a b : ByteArray} {t i j : Nat} (ha : a.size ≤ 1000000000) (hb : b.size ≤ 1000000000) (ht : t ≤ 1000000000) (hi : i ≤ 1000000000) (hj : j ≤ 1000000000) : 1 ≤ (clB a b t i j).size ∧ (clB a b t i j).size ≤ 6000000000 := by
  have h1 := decB_le ht
  have h2 := decB_le hi
  have h3 := decB_le hj
  unfold clB
  simp only [ByteArray.size_append, one_size]
  omega
def numL : List ByteArray → Option (List Int)
  | [] => some []
  | s :: r => match numS s with
    | none => none
    | some n => (numL r).map fun ns => (n : Int) :: ns
theorem numL_cons {s : ByteArray} {r : List ByteArray} : numL (s :: r) = match numS s with | none => none | some n => (numL r).map fun ns => (n : Int) :: ns := rfl
theorem numL_len : ∀ {l : List ByteArray} {ns : List Int}, numL l = some ns → ns.length = l.length
  | [], ns, h => by cases h; rfl
  | s :: r, ns, h => by
    rw [numL_cons] at h
    cases hs : numS s with
    | none => rw [hs] at h; cases h
    | some n =>
      rw [hs] at h
      obtain ⟨ms, h1, rfl⟩ := Option.map_eq_some_iff.1 h
      simp [numL_len h1]
def impN (acc : List Int) (o : Option (List Int)) : List Int × Bool := match o with | some ns => (acc ++ ns, true) | none => ([], false)
theorem impl_nums_l (l : List ByteArray) (hl : l.length ≤ 1000000) : ∀ i : Nat, i ≤ l.length → ∀ acc : List Int, acc.length ≤ i → Ev (fun k => impl_numbers.l0 k acc l (l.length : Int) (i : Int)) (impN acc (numL (l.drop i))) :=
  drop_ind l (P := fun i r => ∀ acc : List Int, acc.length ≤ i → Ev (fun k => impl_numbers.l0 k acc l (l.length : Int) (i : Int)) (impN acc (numL r)))
    (fun acc _ => Ev.step (fun k => impl_numbers.l0.eq_2 ..) (Ev.neg (by omega) (Ev.eq (Ev.now _) (by simp [impN, numL]))))
    (fun i hi ih acc ha => by
      refine Ev.step (fun k => impl_numbers.l0.eq_2 ..) (Ev.pos (by omega) (Ev.pos (by omega) (Ev.pos (by omega) ?_)))
      rw [Sn.rd_str hi]
      refine Ev.bind (impl_dec l[i]) ?_
      rw [numL_cons]
      rcases num_cases l[i] with ⟨h1, _, h3⟩ | ⟨n, h1, _, h3⟩
      · rw [h1, h3]
        exact Ev.neg (by simp) (Ev.now _)
      · rw [h1, h3]
        refine Ev.pos rfl (Ev.pos (by omega) ?_)
        rw [w64 hi (by omega)]
        refine Ev.eq (ih (acc ++ [(n : Int)]) (by simp; omega)) ?_
        cases numL (l.drop (i + 1)) with
        | none => rfl
        | some ns => simp [impN])
theorem impl_nums (l : List ByteArray) (hl : l.length ≤ 1000000) : Ev (fun k => impl_numbers.f k l) (impN [] (numL l)) := impl_nums_l l hl 0 (Nat.zero_le _) [] (Nat.zero_le _)
def spN (m n : Int) (acc : List Int) (o : Option (List Int)) (p : List Int × Bool) : Prop := match o with | some ns => p = (acc ++ ns, n == m) | none => p.2 = false
theorem spec_nums_l (l : List ByteArray) (m : Int) (hl : l.length ≤ 1000000) : ∀ i : Nat, i ≤ l.length → ∀ acc : List Int, acc.length ≤ i → ∃ p, Ev (fun k => spec_l7Numbers.l0 k l m acc (i : Int)) p ∧ spN m (l.length : Int) acc (numL (l.drop i)) p :=
  drop_ind l (P := fun i r => ∀ acc : List Int, acc.length ≤ i → ∃ p, Ev (fun k => spec_l7Numbers.l0 k l m acc (i : Int)) p ∧ spN m (l.length : Int) acc (numL r) p)
    (fun acc _ => ⟨_, Ev.step (fun k => spec_l7Numbers.l0.eq_2 ..) (Ev.neg (by omega) (Ev.now _)), by simp [spN, numL]⟩)
    (fun i hi ih acc ha => by
      rw [numL_cons]
      rcases num_cases l[i] with ⟨h1, h2, _⟩ | ⟨n, h1, h2, _⟩
      · refine ⟨(acc, false), Ev.step (fun k => spec_l7Numbers.l0.eq_2 ..) (Ev.pos (by omega) (Ev.pos (by omega) ?_)), by rw [h1]; rfl⟩
        rw [Sn.rd_str hi]
        refine Ev.bind (spec_num l[i]) (Ev.pos (by rw [h2]; decide) (Ev.now _))
      · obtain ⟨p, hp, hq⟩ := ih (acc ++ [(n : Int)]) (by simp; omega)
        refine ⟨p, Ev.step (fun k => spec_l7Numbers.l0.eq_2 ..) (Ev.pos (by omega) (Ev.pos (by omega) ?_)), ?_⟩
        · rw [Sn.rd_str hi]
          refine Ev.bind (spec_num l[i]) (Ev.neg (by rw [h2]; omega) (Ev.pos (by omega) ?_))
          rw [h2, w64 hi (by omega)]
          exact hp
        · rw [h1]
          cases hn : numL (l.drop (i + 1)) with
          | none => rw [hn] at hq; exact hq
          | some ns => rw [hn] at hq; simpa [spN] using hq)
theorem spec_nums (l : List ByteArray) (m : Int) (hl : l.length ≤ 1000000) : ∃ p, Ev (fun k => spec_l7Numbers.f k l m) p ∧ spN m (l.length : Int) [] (numL l) p := spec_nums_l l m hl 0 (Nat.zero_le _) [] (Nat.zero_le _)
def clOf (c : S70) : ByteArray := clB c.f0 c.f1 c.f2.toNat c.f3.toNat c.f4.toNat
def ClOk (c : S70) : Prop := c.f0.size ≤ 1000000000 ∧ c.f1.size ≤ 1000000000 ∧ (0 ≤ c.f2 ∧ c.f2 ≤ 1000000000) ∧ (0 ≤ c.f3 ∧ c.f3 ≤ 1000000000) ∧ 0 ≤ c.f4 ∧ c.f4 ≤ 1000000000
theorem clOf_impl {c : S70} (h : ClOk c) : impl_clash.f c.f0 c.f1 c.f2 c.f3 c.f4 = some (clOf c) := by
  obtain ⟨h0, h1, h2, h3, h4⟩ := h
  have := impl_clash_eq (t := c.f2.toNat) (i := c.f3.toNat) (j := c.f4.toNat) h0 h1 (by omega) (by omega) (by omega)
  rw [Int.toNat_of_nonneg h2.1, Int.toNat_of_nonneg h3.1, Int.toNat_of_nonneg h4.1] at this
  exact this
theorem clOf_spec {c : S70} (h : ClOk c) : Ev (fun k => spec_l7Clash.f k c.f0 c.f1 c.f2 c.f3 c.f4) (clOf c) := by
  obtain ⟨h0, h1, h2, h3, h4⟩ := h
  have := spec_clash_ev (t := c.f2.toNat) (i := c.f3.toNat) (j := c.f4.toNat) h0 h1 (by omega) (by omega) (by omega)
  rw [Int.toNat_of_nonneg h2.1, Int.toNat_of_nonneg h3.1, Int.toNat_of_nonneg h4.1] at this
  exact this
theorem clOf_size {c : S70} (h : ClOk c) : 1 ≤ (clOf c).size ∧ (clOf c).size ≤ 6000000000 := by
  obtain ⟨h0, h1, h2, h3, h4⟩ := h
  exact clB_size h0 h1 (by omega) (by omega) (by omega)
def clsTail (out : ByteArray) : List S70 → ByteArray
  | [] => out
  | c :: r => clsTail ((out ++ (⟨#[32]⟩ : ByteArray)) ++ clOf c) r
def clsB : List S70 → ByteArray
  | [] => (⟨#[110, 111, 110, 101]⟩ : ByteArray)
  | c :: r => clsTail (clOf c) r
theorem rd52' {l : List S70} {i : Nat} (h : i < l.length) : rd_T70 l (i : Int) = l[i] := by
  unfold rd_T70
  simp [h]
theorem spec_cls_l (l : List S70) (hl : l.length ≤ 1000) (ho : ∀ c ∈ l, ClOk c) : ∀ i : Nat, i ≤ l.length → ∀ out : ByteArray, 1 ≤ i → 1 ≤ out.size → out.size ≤ 6000000001 * i → Ev (fun k => spec_l7Clashes.l0 k l out (i : Int)) (clsTail out (l.drop i)) :=
  drop_ind l (P := fun i r => ∀ out : ByteArray, 1 ≤ i → 1 ≤ out.size → out.size ≤ 6000000001 * i → Ev (fun k => spec_l7Clashes.l0 k l out (i : Int)) (clsTail out r))
    (fun out _ h1 _ => Ev.step (fun k => spec_l7Clashes.l0.eq_2 ..) (Ev.neg (by omega) (Ev.neg (fun e => by
      have h2 : out.toList.length = out.size := by rw [ByteArray.toList_eq]; rfl
      rw [e] at h2
      simp at h2
      omega) (Ev.now _))))
    (fun i hi ih out h0 h1 h2 => by
      have hc := ho _ (List.getElem_mem hi)
      have hz := clOf_size hc
      refine Ev.step (fun k => spec_l7Clashes.l0.eq_2 ..) (Ev.pos (by omega) (Ev.pos (by omega) (Ev.pos (by omega) (Ev.pos (by omega) ?_))))
      rw [rd52' hi]
      refine Ev.bind (clOf_spec hc) (Ev.pos (by rw [ByteArray.size_append, one_size]; omega) ?_)
      rw [w64 hi (by omega)]
      exact ih _ (by omega) (by simp only [ByteArray.size_append, one_size]; omega) (by simp only [ByteArray.size_append, one_size]; omega))
theorem spec_cls (l : List S70) (hl : l.length ≤ 1000) (ho : ∀ c ∈ l, ClOk c) : Ev (fun k => spec_l7Clashes.f k l) (clsB l) := by
  cases l with
  | nil => exact Ev.step (fun k => spec_l7Clashes.l0.eq_2 ..) (Ev.neg (by simp) (Ev.pos (by rw [ByteArray.toList_eq]) (Ev.now _)))
  | cons c r =>
    have hc := ho c (by simp)
    have hz := clOf_size hc
    have hi : 0 < (c :: r).length := by simp
    refine Ev.step (fun k => spec_l7Clashes.l0.eq_2 ..) (Ev.pos (by simp) (Ev.neg (by omega) (Ev.pos (by omega) ?_)))
    rw [show rd_T70 (c :: r) (0 : Int) = c from rd52' hi]
    refine Ev.bind (clOf_spec hc) (Ev.pos (by have : (⟨#[]⟩ : ByteArray).size = 0 := rfl; omega) ?_)
    rw [show (⟨#[]⟩ : ByteArray) ++ clOf c = clOf c from by apply ByteArray.ext; simp [ByteArray.data_append], show wrap64 ((0 : Int) + 1) = ((1 : Nat) : Int) from by unfold wrap64; omega]
    exact spec_cls_l (c :: r) hl ho 1 (by simp) (clOf c) (Nat.le_refl _) hz.1 (by omega)
theorem tail_data : ∀ (r : List S70) (out : ByteArray), (clsTail out r).data.toList = out.data.toList ++ Lib.joinTail [32] (r.map fun c => (clOf c).data.toList)
  | [], out => by simp [clsTail, Lib.joinTail]
  | c :: r, out => by
    rw [clsTail, tail_data r]
    simp [Lib.joinTail, ByteArray.data_append]
theorem tail_size : ∀ {r : List S70} {out : ByteArray}, (∀ c ∈ r, ClOk c) → (clsTail out r).size ≤ out.size + 6000000001 * r.length
  | [], out, _ => by simp [clsTail]
  | c :: r, out, h => by
    rw [clsTail]
    have h1 := tail_size (r := r) (out := (out ++ (⟨#[32]⟩ : ByteArray)) ++ clOf c) (fun x hx => h x (by simp [hx]))
    have h2 := clOf_size (h c (by simp))
    simp only [ByteArray.size_append, one_size] at h1
    rw [List.length_cons]
    omega
theorem join_cls {c : S70} {r : List S70} (hl : r.length ≤ 1000) (ho : ∀ x ∈ c :: r, ClOk x) : Lb.join.f ((c :: r).map clOf) (⟨#[32]⟩ : ByteArray) = some (clsB (c :: r)) := by
  have hd : Lib.join (((c :: r).map clOf).map (·.data.toList)) (⟨#[32]⟩ : ByteArray).data.toList = (clsB (c :: r)).data.toList := by
    rw [List.map_cons, List.map_cons, Lib.join_cons, clsB, tail_data]
    simp [Function.comp_def]
  have hz := tail_size (r := r) (out := clOf c) (fun x hx => ho x (by simp [hx]))
  have hc := clOf_size (ho c (by simp))
  unfold Lb.join.f
  rw [hd, if_pos ⟨by simp; omega, by have : (clsB (c :: r)).data.toList.length = (clsTail (clOf c) r).size := rfl; omega⟩]
theorem impl_cls_l (l : List S70) (hl : l.length ≤ 1000) (ho : ∀ c ∈ l, ClOk c) (hp : 0 < l.length) : ∀ i : Nat, i ≤ l.length → ∀ acc : List ByteArray, acc.length ≤ i → acc ++ (l.drop i).map clOf = l.map clOf → Ev (fun k => impl_clashes.l0 k acc l (l.length : Int) (i : Int)) (clsB l) :=
  drop_ind l (P := fun i r => ∀ acc : List ByteArray, acc.length ≤ i → acc ++ r.map clOf = l.map clOf → Ev (fun k => impl_clashes.l0 k acc l (l.length : Int) (i : Int)) (clsB l))
    (fun acc _ he => by
      refine Ev.step (fun k => impl_clashes.l0.eq_2 ..) (Ev.neg (by omega) ?_)
      rw [List.map_nil, List.append_nil] at he
      rw [he]
      cases l with
      | nil => simp at hp
      | cons c r =>
        rw [join_cls (by simp at hl; omega) ho]
        exact Ev.now _)
    (fun i hi ih acc ha he => by
      have hc := ho _ (List.getElem_mem hi)
      refine Ev.step (fun k => impl_clashes.l0.eq_2 ..) (Ev.pos (by omega) (Ev.pos (by omega) (Ev.pos (by omega) ?_)))
      rw [rd52' hi, clOf_impl hc]
      refine Ev.bind (Ev.now _) (Ev.pos (by omega) ?_)
      rw [w64 hi (by omega)]
      exact ih _ (by simp; omega) (by rw [← he, List.map_cons, List.append_assoc]; rfl))
theorem impl_cls (l : List S70) (hl : l.length ≤ 1000) (ho : ∀ c ∈ l, ClOk c) : Ev (fun k => impl_clashes.f k l) (clsB l) := by
  cases l with
  | nil => exact Ev.pos (by simp) (Ev.now _)
  | cons c r => exact Ev.neg (by rw [List.length_cons]; omega) (impl_cls_l (c :: r) hl ho (by simp) 0 (by simp) [] (by simp) (by simp))
theorem sky_mk {L : List S33} (hl : L.length ≤ 24) (hp : L.Pairwise (fun a b => lt a.f0 b.f0 = true)) (ho : ∀ t ∈ L, tubeOk t.f0 t.f1 = true) : skyOk L = true := by
  simp only [skyOk, Bool.and_eq_true, decide_eq_true_eq]
  exact ⟨hl, sky_of_pw (fun n h => by cases h) hp ho⟩
theorem sky_set {L : List S33} (h : skyOk L = true) {s : ByteArray} {l : List S46} (ht : tubeOk s l = true) {i : Nat} (hi : i < L.length) (hn : L[i].f0.toList = s.toList) : skyOk (L.set i ⟨s, l⟩) = true := by
  have h1 := sky_len h
  have hp := List.pairwise_iff_getElem.1 (skyPw h)
  have hx : ∀ (j : Nat) (hj : j < L.length), ((L.set i ⟨s, l⟩)[j]'(by rw [List.length_set]; exact hj)).f0.toList = L[j].f0.toList := by
    intro j hj
    rw [List.getElem_set]
    split
    · rename_i e; subst e; exact hn.symm
    · rfl
  refine sky_mk (by rw [List.length_set]; exact h1.1) (List.pairwise_iff_getElem.2 fun j k hj hk hjk => ?_) (fun t hm => ?_)
  · rw [List.length_set] at hj hk
    have := hp j k hj hk hjk
    unfold lt at this ⊢
    rw [hx j hj, hx k hk]
    exact this
  rcases List.mem_or_eq_of_mem_set hm with h2 | h2
  · exact h1.2 t h2
  rw [h2]; exact ht
theorem bl_total : ∀ x y : List UInt8, Op.bytesLess x y = false → x ≠ y → Op.bytesLess y x = true
  | [], [], _, hn => absurd rfl hn
  | [], _ :: _, h, _ => by simp [Op.bytesLess] at h
  | _ :: _, [], _, _ => by simp [Op.bytesLess]
  | a :: x, b :: y, h, hn => by
    simp only [Op.bytesLess] at h ⊢
    by_cases h1 : a < b
    · simp [h1] at h
    · by_cases h2 : b < a
      · simp [h2]
      · have e : a = b := UInt8.le_antisymm (UInt8.not_lt.1 h2) (UInt8.not_lt.1 h1)
        subst e
        have h3 := bl_total x y (by simpa [h1] using h) (fun e => hn (by rw [e]))
        simp [h3]
theorem sky_insert {L : List S33} (h : skyOk L = true) {s : ByteArray} {l : List S46} (ht : tubeOk s l = true) (hl : L.length < 24) (hn : isThere L s = false) : skyOk (L.take (place L s) ++ ⟨s, l⟩ :: L.drop (place L s)) = true := by
  have h1 := sky_len h
  have hp := List.pairwise_iff_getElem.1 (skyPw h)
  have hpl := place_le L s
  have ha : ∀ t ∈ L.take (place L s), lt t.f0 s = true := by
    intro t hm
    obtain ⟨j, hj, rfl⟩ := List.getElem_of_mem hm
    rw [List.length_take] at hj
    rw [List.getElem_take]
    exact less_below (by omega) (by omega)
  have hb : ∀ t ∈ L.drop (place L s), lt s t.f0 = true := by
    intro t hm
    obtain ⟨j, hj, rfl⟩ := List.getElem_of_mem hm
    rw [List.length_drop] at hj
    rw [List.getElem_drop]
    have hlt : place L s < L.length := by omega
    have h2 := not_less_at hlt
    have h3 : (L[place L s]'hlt).f0.toList ≠ s.toList := by
      intro e
      unfold isThere at hn
      rw [rd39 hlt] at hn
      simp [hlt, e] at hn
    have h4 : lt s (L[place L s]'hlt).f0 = true := bl_total _ _ h2 h3
    rcases Nat.eq_zero_or_pos j with hz | hz
    · subst hz; exact h4
    · exact bl_trans _ _ _ h4 (hp (place L s) (place L s + j) hlt (by omega) (by omega))
  refine sky_mk (by simp; omega) (List.pairwise_append.2 ⟨(skyPw h).sublist (List.take_sublist _ _), List.pairwise_cons.2 ⟨hb, (skyPw h).sublist (List.drop_sublist _ _)⟩, fun x hx y hy => ?_⟩) (fun t hm => ?_)
  · rcases List.mem_cons.1 hy with e | hy
    · rw [e]; exact ha x hx
    exact bl_trans _ _ _ (ha x hx) (hb y hy)
  rcases List.mem_append.1 hm with h2 | h2
  · exact h1.2 t (List.mem_of_mem_take h2)
  rcases List.mem_cons.1 h2 with e | h2
  · rw [e]; exact ht
  exact h1.2 t (List.mem_of_mem_drop h2)
theorem there_at {L : List S33} {s : ByteArray} (h : isThere L s = true) : ∃ hi : place L s < L.length, (L[place L s]'hi).f0.toList = s.toList := by
  unfold isThere at h
  rw [Bool.and_eq_true, decide_eq_true_eq] at h
  refine ⟨h.1, ?_⟩
  have := h.2
  rw [rd39 h.1] at this
  exact beq_iff_eq.1 this
theorem sky_happen {L : List S33} (h : skyOk L = true) (d : Bool) (s : ByteArray) (l : List S46) : skyOk (happen L d s l).1 = true := by
  unfold happen
  rw [if_pos h]
  split
  · split
    · exact sky_sub h (List.eraseIdx_sublist _ _)
    exact h
  split
  · rename_i ht
    split
    · rename_i hi
      obtain ⟨h1, h2⟩ := there_at hi
      exact sky_set h ht h1 h2
    rename_i hi
    split
    · exact h
    have := (sky_len h).1
    exact sky_insert h ht (by omega) (Bool.eq_false_iff.2 hi)
  exact h
theorem happen_same {L : List S33} (h : skyOk L = true) {d : Bool} {s : ByteArray} {l : List S46} (hc : (happen L d s l).2 ≠ 0) : (happen L d s l).1 = L := by
  unfold happen at hc ⊢
  rw [if_pos h] at hc ⊢
  by_cases hd : d = true
  · by_cases hi : isThere L s = true
    · simp [hd, hi] at hc
    simp [hd, hi]
  by_cases ht : tubeOk s l = true
  · by_cases hi : isThere L s = true
    · simp [hd, ht, hi] at hc
    by_cases h24 : L.length = 24
    · simp [hd, ht, hi, h24]
    simp [hd, ht, hi, h24] at hc
  simp [hd, ht]
theorem tube_there {L : List S33} (h : skyOk L = true) {n : ByteArray} (hi : isThere L n = true) : impl_s_tube.f L n = ((rd_T33 L (place L n : Int)).f0, (rd_T33 L (place L n : Int)).f1, true) := by
  obtain ⟨hp, he⟩ := there_at hi
  have ha : atOf L n = (place L n : Int) := by unfold atOf; rw [if_pos hi]
  refine Sn.find_hit hp (fun j t hj ht => ?_) (by rw [rd39 hp]; exact he)
  obtain ⟨hj1, rfl⟩ := List.getElem?_eq_some_iff.1 ht
  exact name_ne h hj1 (by rw [ha]; omega)
theorem tube_not {L : List S33} (h : skyOk L = true) {n : ByteArray} (hi : isThere L n = false) : impl_s_tube.f L n = (⟨#[]⟩, [], false) := by
  have ha : atOf L n = -1 := by unfold atOf; rw [if_neg (by rw [hi]; decide)]
  refine Sn.find_none (fun j t hj ht => ?_)
  obtain ⟨hj1, rfl⟩ := List.getElem?_eq_some_iff.1 ht
  exact name_ne h hj1 (by rw [ha]; omega)
theorem happen_code (L : List S33) (d : Bool) (s : ByteArray) (l : List S46) : ∃ c : Nat, c ≤ 4 ∧ (happen L d s l).2 = (c : Int) := by
  unfold happen
  split
  · split
    · split
      · exact ⟨0, by decide, rfl⟩
      exact ⟨3, by decide, rfl⟩
    split
    · split
      · exact ⟨0, by decide, rfl⟩
      split
      · exact ⟨4, by decide, rfl⟩
      exact ⟨0, by decide, rfl⟩
    exact ⟨2, by decide, rfl⟩
  exact ⟨1, by decide, rfl⟩
def codeB (L : List S33) (d : Bool) (s : ByteArray) (l : List S46) : ByteArray := (⟨#[99, 111, 100, 101, 32]⟩ : ByteArray) ++ decB (happen L d s l).2.toNat
theorem impl_hap {st : Sx} (h : skyOk st.1 = true) (d : Bool) (s : ByteArray) (l : List S46) : Ev (fun k => impl_s_happen.f k st d s l) (codeB st.1 d s l, ((happen st.1 d s l).1, st.2)) := by
  obtain ⟨c, hc, he⟩ := happen_code st.1 d s l
  have hz := decB_le (n := c) (by omega)
  refine Ev.bind (impl_happen st.1 d s l) ?_
  rw [he, itoa_ev c (by omega)]
  refine Ev.bind (Ev.now _) (Ev.pos (by omega) (Ev.eq (Ev.now _) ?_))
  unfold codeB
  rw [he, Int.toNat_natCast]
  by_cases h0 : (c : Int) = 0
  · rw [if_pos h0]
  rw [if_neg h0, happen_same h (by rw [he]; exact h0)]
theorem spec_hap {st : Sx} (d : Bool) (s : ByteArray) (l : List S46) : Ev (fun k => spec_s_happen.f k st d s l) (codeB st.1 d s l, ((happen st.1 d s l).1, st.2)) := by
  obtain ⟨c, hc, he⟩ := happen_code st.1 d s l
  have hz := decB_le (n := c) (by omega)
  refine Ev.bind (spec_happen st.1 d s l) ?_
  rw [he]
  refine Ev.bind (dec_itoa c (by omega)) (Ev.pos (by omega) (Ev.eq (Ev.now _) ?_))
  unfold codeB
  rw [he, Int.toNat_natCast]
theorem cutM_single {c : UInt8} : ∀ {l p : List UInt8}, cutM c l = [p] → l = p
  | [], p, h => by simpa [cutM] using h
  | b :: l, p, h => by
    unfold cutM at h
    split at h
    · simp only [List.cons.injEq] at h
      exact absurd h.2 (cutM_ne c l)
    · simp only [List.cons.injEq] at h
      cases hc : cutM c l with
      | nil => exact absurd hc (cutM_ne c l)
      | cons q t =>
        rw [hc] at h
        simp only [List.headD_cons, List.tail_cons] at h
        rw [h.2] at hc
        rw [cutM_single hc, h.1]
theorem line_of_one {line x : ByteArray} (h : [x].map (·.data.toList) = cutM 32 line.data.toList) : line.toList = x.toList := by
  rw [ByteArray.toList_eq, ByteArray.toList_eq]
  exact cutM_single h.symm
theorem st_bounds {l l' : List S46} (h1 : l.length ≤ 40) (h2 : l'.length ≤ 40) (ho : l.all bOk = true) (ho' : l'.all bOk = true) {t : Int × Int × Int} (h : meetSt l l' = some t) : (0 ≤ t.1 ∧ t.1 ≤ 10000) ∧ (0 ≤ t.2.1 ∧ t.2.1 ≤ 40) ∧ 0 ≤ t.2.2 ∧ t.2.2 ≤ 40 := by
  have hb := best l l'
  rw [h] at hb
  obtain ⟨⟨i, j, e, e', hi, hj, hn⟩, _⟩ := hb
  have hbd := bNear_bounds (bOk_of ho hi) (bOk_of ho' hj) (by rw [hn])
  rw [hn] at hbd
  exact ⟨hbd, by omega, by omega, by omega⟩
theorem clOk_enc {s s' : ByteArray} {l l' : List S46} (h : tubeOk s l = true) (h' : tubeOk s' l' = true) : ClOk (mkC (enc s s' (meetSt l l'))) := by
  have a := len_of_tube h
  have a' := len_of_tube h'
  have b := size_of_tube h
  have b' := size_of_tube h'
  unfold ClOk mkC enc
  cases hm : meetSt l l' with
  | none =>
    have e0 : (⟨#[]⟩ : ByteArray).size = 0 := rfl
    simp only [sA, sT, sI, sJ]
    omega
  | some t =>
    have := st_bounds a.1 a'.1 a.2 a'.2 hm
    simp only [sA, sT, sI, sJ]
    omega
theorem rowL_ok {t : S33} (ht : tubeOk t.f0 t.f1 = true) : ∀ {r : List S33}, (∀ u ∈ r, tubeOk u.f0 u.f1 = true) → ∀ c ∈ rowL t r, ClOk c
  | [], _, c, hc => by simp [rowL] at hc
  | u :: r, h, c, hc => by
    unfold rowL at hc
    have ih := rowL_ok ht (r := r) (fun x hx => h x (by simp [hx]))
    split at hc
    · rcases List.mem_cons.1 hc with e | e
      · rw [e]; exact clOk_enc ht (h u (by simp))
      · exact ih c e
    · exact ih c hc
theorem allL_ok : ∀ {L : List S33}, (∀ u ∈ L, tubeOk u.f0 u.f1 = true) → ∀ c ∈ allL L, ClOk c
  | [], _, c, hc => by simp [allL] at hc
  | t :: r, h, c, hc => by
    unfold allL at hc
    rcases List.mem_append.1 hc with e | e
    · exact rowL_ok (h t (by simp)) (fun x hx => h x (by simp [hx])) c e
    · exact allL_ok (fun x hx => h x (by simp [hx])) c e
theorem withL_ok {s : ByteArray} {l : List S46} (ht : tubeOk s l = true) : ∀ {L : List S33}, (∀ u ∈ L, tubeOk u.f0 u.f1 = true) → ∀ c ∈ withL s l L, ClOk c
  | [], _, c, hc => by simp [withL] at hc
  | t :: r, h, c, hc => by
    unfold withL at hc
    have ih := withL_ok ht (L := r) (fun x hx => h x (by simp [hx]))
    split at hc
    · rcases List.mem_cons.1 hc with e | e
      · rw [e]; exact clOk_enc ht (h t (by simp))
      · exact ih c e
    · exact ih c hc
theorem allA_ok (L : List S33) : ∀ c ∈ allA L, ClOk c := by
  unfold allA
  split
  · rename_i h; exact allL_ok (sky_len h).2
  intro c hc; simp at hc
theorem withA_ok (L : List S33) (s : ByteArray) (l : List S46) : ∀ c ∈ withA L s l, ClOk c := by
  unfold withA
  split
  · rename_i h; exact withL_ok h.2 (sky_len h.1).2
  intro c hc; simp at hc
def Inv (st : Sx) : Prop := skyOk st.1 = true ∧ st.2.2.length ≤ 40
def Both (F G : Nat → Option (ByteArray × Sx)) : Prop := ∃ p : ByteArray × Sx, Ev F p ∧ Ev G p ∧ Inv p.2 ∧ p.1.size ≤ 7000000000000
theorem cutM_len (c : UInt8) : ∀ l : List UInt8, (cutM c l).length ≤ l.length + 1
  | [] => by simp [cutM]
  | b :: l => by
    have := cutM_len c l
    have h1 := cutM_ne c l
    unfold cutM
    split
    · simp; omega
    · simp only [List.length_cons, List.length_tail]
      omega
theorem words_len {line : ByteArray} {ws : List ByteArray} (hz : line.size ≤ 20000) (hm : ws.map (·.data.toList) = cutM 32 line.data.toList) : ws.length ≤ 20001 := by
  have := cutM_len 32 line.data.toList
  rw [← hm, List.length_map] at this
  have h2 : line.data.toList.length = line.size := rfl
  omega
theorem word_of {line : ByteArray} {ws : List ByteArray} {w : List UInt8} (hm : ws.map (·.data.toList) = cutM 32 line.data.toList) (hw : ∀ b ∈ w, b ≠ 32) (h : line.toList = w) : ws.length = 1 ∧ (rdOf ByteArray.empty ws 0).toList = w := by
  rw [ByteArray.toList_eq] at h
  rw [h, cutM_none hw] at hm
  cases ws with
  | nil => simp at hm
  | cons x r =>
    simp only [List.map_cons, List.cons.injEq, List.map_eq_nil_iff] at hm
    obtain ⟨h1, rfl⟩ := hm
    refine ⟨rfl, ?_⟩
    show x.toList = w
    rw [ByteArray.toList_eq]
    exact h1
theorem line_of {line : ByteArray} {ws : List ByteArray} {w : List UInt8} (hm : ws.map (·.data.toList) = cutM 32 line.data.toList) (hl : ws.length = 1) (h : (rdOf ByteArray.empty ws 0).toList = w) : line.toList = w := by
  match ws, hl with
  | [x], _ =>
    rw [line_of_one hm]
    exact h
theorem codeB_size (L : List S33) (d : Bool) (s : ByteArray) (l : List S46) : (codeB L d s l).size ≤ 7000000000000 := by
  obtain ⟨c, hc, he⟩ := happen_code L d s l
  have hz := decB_le (n := c) (by omega)
  have h5 : (⟨#[99, 111, 100, 101, 32]⟩ : ByteArray).size = 5 := rfl
  unfold codeB
  rw [he, Int.toNat_natCast, ByteArray.size_append]
  omega
theorem clsB_le {l : List S70} (hl : l.length ≤ 1000) (ho : ∀ c ∈ l, ClOk c) : (clsB l).size ≤ 7000000000000 := by
  cases l with
  | nil => decide
  | cons c r =>
    have h1 := tail_size (r := r) (out := clOf c) (fun x hx => ho x (by simp [hx]))
    have h2 := clOf_size (ho c (by simp))
    rw [List.length_cons] at hl
    show (clsTail (clOf c) r).size ≤ _
    omega
theorem not_line {line : ByteArray} {ws : List ByteArray} (hm : ws.map (·.data.toList) = cutM 32 line.data.toList) (hl : ¬ ws.length = 1) : ∀ w : List UInt8, (∀ b ∈ w, b ≠ 32) → ¬ line.toList = w := fun _ hw e => hl (word_of hm hw e).1
theorem not_word {line : ByteArray} {ws : List ByteArray} (hm : ws.map (·.data.toList) = cutM 32 line.data.toList) : ∀ w : List UInt8, (∀ b ∈ w, b ≠ 32) → ¬ (rdOf ByteArray.empty ws 0).toList = w → ¬ line.toList = w := fun _ hw hn e => hn (word_of hm hw e).2
theorem b_tube {st : Sx} (hI : Inv st) {line : ByteArray} {ws : List ByteArray} (hz : line.size ≤ 20000) (hm : ws.map (·.data.toList) = cutM 32 line.data.toList) (h0 : 0 < ws.length) (hW : (rdOf ByteArray.empty ws 0).toList = ([116, 117, 98, 101] : List UInt8)) : Both (fun k => if 0 < ws.length then impl_s_ans.f k st line ws else none) (fun k => spec_s_line.f k st ws) := by
  have hwl := words_len hz hm
  have hdl : (ws.drop 1).length = ws.length - 1 := List.length_drop
  obtain ⟨p6, e6, q6⟩ := spec_nums (ws.drop 1) 6 (by omega)
  obtain ⟨p1, e1, q1⟩ := spec_nums (ws.drop 1) 1 (by omega)
  by_cases hl : ws.length = 2
  · refine ⟨((⟨#[111, 107]⟩ : ByteArray), (st.1, (rdOf ByteArray.empty ws 1), [])), ?_, ?_, ⟨hI.1, Nat.zero_le _⟩, (by decide : (⟨#[111, 107]⟩ : ByteArray).size ≤ 7000000000000)⟩
    · unfold impl_s_ans.f; exact (Ev.pos h0 (Ev.pos hW (Ev.pos hl (Ev.now _))))
    unfold spec_s_line.f; exact (Ev.pos h0 (Ev.bind e6 (Ev.bind e1 (Ev.pos hW (Ev.pos hl (Ev.now _))))))
  refine ⟨((⟨#[98, 97, 100]⟩ : ByteArray), st), ?_, ?_, hI, (by decide : (⟨#[98, 97, 100]⟩ : ByteArray).size ≤ 7000000000000)⟩
  · unfold impl_s_ans.f; exact (Ev.pos h0 (Ev.pos hW (Ev.neg hl (Ev.now _))))
  unfold spec_s_line.f; exact (Ev.pos h0 (Ev.bind e6 (Ev.bind e1 (Ev.pos hW (Ev.neg hl (Ev.now _))))))
theorem b_drop {st : Sx} (hI : Inv st) {line : ByteArray} {ws : List ByteArray} (hz : line.size ≤ 20000) (hm : ws.map (·.data.toList) = cutM 32 line.data.toList) (h0 : 0 < ws.length) (hW : (rdOf ByteArray.empty ws 0).toList = ([100, 114, 111, 112] : List UInt8)) : Both (fun k => if 0 < ws.length then impl_s_ans.f k st line ws else none) (fun k => spec_s_line.f k st ws) := by
  have hwl := words_len hz hm
  have hdl : (ws.drop 1).length = ws.length - 1 := List.length_drop
  obtain ⟨p6, e6, q6⟩ := spec_nums (ws.drop 1) 6 (by omega)
  obtain ⟨p1, e1, q1⟩ := spec_nums (ws.drop 1) 1 (by omega)
  by_cases hl : ws.length = 2
  · refine ⟨(codeB st.1 true (rdOf ByteArray.empty ws 1) [], ((happen st.1 true (rdOf ByteArray.empty ws 1) []).1, st.2)), ?_, ?_, ⟨sky_happen hI.1 _ _ _, hI.2⟩, codeB_size _ _ _ _⟩
    · unfold impl_s_ans.f; exact (Ev.pos h0 (Ev.neg (by rw [hW]; decide) (Ev.neg (by rw [hW]; decide) (Ev.pos hW (Ev.pos hl (impl_hap hI.1 true (rdOf ByteArray.empty ws 1) []))))))
    unfold spec_s_line.f; exact (Ev.pos h0 (Ev.bind e6 (Ev.bind e1 (Ev.neg (by rw [hW]; decide) (Ev.neg (by rw [hW]; decide) (Ev.neg (by rw [hW]; decide) (Ev.pos hW (Ev.pos hl (spec_hap true (rdOf ByteArray.empty ws 1) [])))))))))
  refine ⟨((⟨#[98, 97, 100]⟩ : ByteArray), st), ?_, ?_, hI, (by decide : (⟨#[98, 97, 100]⟩ : ByteArray).size ≤ 7000000000000)⟩
  · unfold impl_s_ans.f; exact (Ev.pos h0 (Ev.neg (by rw [hW]; decide) (Ev.neg (by rw [hW]; decide) (Ev.pos hW (Ev.neg hl (Ev.now _))))))
  unfold spec_s_line.f; exact (Ev.pos h0 (Ev.bind e6 (Ev.bind e1 (Ev.neg (by rw [hW]; decide) (Ev.neg (by rw [hW]; decide) (Ev.neg (by rw [hW]; decide) (Ev.pos hW (Ev.neg hl (Ev.now _)))))))))
theorem b_put {st : Sx} (hI : Inv st) {line : ByteArray} {ws : List ByteArray} (hz : line.size ≤ 20000) (hm : ws.map (·.data.toList) = cutM 32 line.data.toList) (h0 : 0 < ws.length) (hW : (rdOf ByteArray.empty ws 0).toList = ([112, 117, 116] : List UInt8)) : Both (fun k => if 0 < ws.length then impl_s_ans.f k st line ws else none) (fun k => spec_s_line.f k st ws) := by
  have hwl := words_len hz hm
  have hdl : (ws.drop 1).length = ws.length - 1 := List.length_drop
  obtain ⟨p6, e6, q6⟩ := spec_nums (ws.drop 1) 6 (by omega)
  obtain ⟨p1, e1, q1⟩ := spec_nums (ws.drop 1) 1 (by omega)
  have hb := hI.2
  by_cases hl : ws.length = 1
  · have hline := line_of hm hl hW
    refine ⟨(codeB st.1 false st.2.1 st.2.2, ((happen st.1 false st.2.1 st.2.2).1, st.2)), ?_, ?_, ⟨sky_happen hI.1 _ _ _, hI.2⟩, codeB_size _ _ _ _⟩
    · unfold impl_s_ans.f; exact (Ev.pos h0 (Ev.neg (by rw [hW]; decide) (Ev.neg (by rw [hW]; decide) (Ev.neg (by rw [hW]; decide) (Ev.neg (by rw [hW]; decide) (Ev.neg (by rw [hW]; decide) (Ev.pos hline (Ev.bind (Ev.is (copy_tube (s := st.2.1) (l := st.2.2) (by omega))) (impl_hap hI.1 false st.2.1 st.2.2)))))))))
    unfold spec_s_line.f; exact (Ev.pos h0 (Ev.bind e6 (Ev.bind e1 (Ev.neg (by rw [hW]; decide) (Ev.neg (by rw [hW]; decide) (Ev.pos hW (Ev.pos hl (spec_hap false st.2.1 st.2.2))))))))
  have hx := not_line hm hl
  refine ⟨((⟨#[98, 97, 100]⟩ : ByteArray), st), ?_, ?_, hI, (by decide : (⟨#[98, 97, 100]⟩ : ByteArray).size ≤ 7000000000000)⟩
  · unfold impl_s_ans.f; exact (Ev.pos h0 (Ev.neg (by rw [hW]; decide) (Ev.neg (by rw [hW]; decide) (Ev.neg (by rw [hW]; decide) (Ev.neg (by rw [hW]; decide) (Ev.neg (by rw [hW]; decide) (Ev.neg (hx _ (by decide)) (Ev.neg (hx _ (by decide)) (Ev.neg (hx _ (by decide)) (Ev.neg (hx _ (by decide)) (Ev.now _)))))))))))
  unfold spec_s_line.f; exact (Ev.pos h0 (Ev.bind e6 (Ev.bind e1 (Ev.neg (by rw [hW]; decide) (Ev.neg (by rw [hW]; decide) (Ev.pos hW (Ev.neg hl (Ev.now _))))))))
theorem b_all {st : Sx} (hI : Inv st) {line : ByteArray} {ws : List ByteArray} (hz : line.size ≤ 20000) (hm : ws.map (·.data.toList) = cutM 32 line.data.toList) (h0 : 0 < ws.length) (hW : (rdOf ByteArray.empty ws 0).toList = ([97, 108, 108] : List UInt8)) : Both (fun k => if 0 < ws.length then impl_s_ans.f k st line ws else none) (fun k => spec_s_line.f k st ws) := by
  have hwl := words_len hz hm
  have hdl : (ws.drop 1).length = ws.length - 1 := List.length_drop
  obtain ⟨p6, e6, q6⟩ := spec_nums (ws.drop 1) 6 (by omega)
  obtain ⟨p1, e1, q1⟩ := spec_nums (ws.drop 1) 1 (by omega)
  by_cases hl : ws.length = 1
  · have hline := line_of hm hl hW
    refine ⟨(clsB (allA st.1), st), ?_, ?_, hI, clsB_le (allA_len _) (allA_ok _)⟩
    · unfold impl_s_ans.f; exact (Ev.pos h0 (Ev.neg (by rw [hW]; decide) (Ev.neg (by rw [hW]; decide) (Ev.neg (by rw [hW]; decide) (Ev.neg (by rw [hW]; decide) (Ev.neg (by rw [hW]; decide) (Ev.neg (by rw [hline]; decide) (Ev.pos hline (Ev.bind (impl_all st.1) (Ev.bind (impl_cls _ (allA_len _) (allA_ok _)) (Ev.now _)))))))))))
    unfold spec_s_line.f; exact (Ev.pos h0 (Ev.bind e6 (Ev.bind e1 (Ev.neg (by rw [hW]; decide) (Ev.neg (by rw [hW]; decide) (Ev.neg (by rw [hW]; decide) (Ev.neg (by rw [hW]; decide) (Ev.pos hW (Ev.pos hl (Ev.bind (spec_all st.1) (Ev.bind (spec_cls _ (allA_len _) (allA_ok _)) (Ev.now _))))))))))))
  have hx := not_line hm hl
  refine ⟨((⟨#[98, 97, 100]⟩ : ByteArray), st), ?_, ?_, hI, (by decide : (⟨#[98, 97, 100]⟩ : ByteArray).size ≤ 7000000000000)⟩
  · unfold impl_s_ans.f; exact (Ev.pos h0 (Ev.neg (by rw [hW]; decide) (Ev.neg (by rw [hW]; decide) (Ev.neg (by rw [hW]; decide) (Ev.neg (by rw [hW]; decide) (Ev.neg (by rw [hW]; decide) (Ev.neg (hx _ (by decide)) (Ev.neg (hx _ (by decide)) (Ev.neg (hx _ (by decide)) (Ev.neg (hx _ (by decide)) (Ev.now _)))))))))))
  unfold spec_s_line.f; exact (Ev.pos h0 (Ev.bind e6 (Ev.bind e1 (Ev.neg (by rw [hW]; decide) (Ev.neg (by rw [hW]; decide) (Ev.neg (by rw [hW]; decide) (Ev.neg (by rw [hW]; decide) (Ev.pos hW (Ev.neg hl (Ev.now _))))))))))
theorem b_with {st : Sx} (hI : Inv st) {line : ByteArray} {ws : List ByteArray} (hz : line.size ≤ 20000) (hm : ws.map (·.data.toList) = cutM 32 line.data.toList) (h0 : 0 < ws.length) (hW : (rdOf ByteArray.empty ws 0).toList = ([119, 105, 116, 104] : List UInt8)) : Both (fun k => if 0 < ws.length then impl_s_ans.f k st line ws else none) (fun k => spec_s_line.f k st ws) := by
  have hwl := words_len hz hm
  have hdl : (ws.drop 1).length = ws.length - 1 := List.length_drop
  obtain ⟨p6, e6, q6⟩ := spec_nums (ws.drop 1) 6 (by omega)
  obtain ⟨p1, e1, q1⟩ := spec_nums (ws.drop 1) 1 (by omega)
  by_cases hl : ws.length = 1
  · have hline := line_of hm hl hW
    refine ⟨(clsB (withA st.1 st.2.1 st.2.2), st), ?_, ?_, hI, clsB_le (withA_len _ _ _) (withA_ok _ _ _)⟩
    · unfold impl_s_ans.f; exact (Ev.pos h0 (Ev.neg (by rw [hW]; decide) (Ev.neg (by rw [hW]; decide) (Ev.neg (by rw [hW]; decide) (Ev.neg (by rw [hW]; decide) (Ev.neg (by rw [hW]; decide) (Ev.neg (by rw [hline]; decide) (Ev.neg (by rw [hline]; decide) (Ev.pos hline (Ev.bind (impl_with st.1 st.2.1 st.2.2) (Ev.bind (impl_cls _ (withA_len _ _ _) (withA_ok _ _ _)) (Ev.now _))))))))))))
    unfold spec_s_line.f; exact (Ev.pos h0 (Ev.bind e6 (Ev.bind e1 (Ev.neg (by rw [hW]; decide) (Ev.neg (by rw [hW]; decide) (Ev.neg (by rw [hW]; decide) (Ev.neg (by rw [hW]; decide) (Ev.neg (by rw [hW]; decide) (Ev.pos hW (Ev.pos hl (Ev.bind (spec_with st.1 st.2.1 st.2.2) (Ev.bind (spec_cls _ (withA_len _ _ _) (withA_ok _ _ _)) (Ev.now _)))))))))))))
  have hx := not_line hm hl
  refine ⟨((⟨#[98, 97, 100]⟩ : ByteArray), st), ?_, ?_, hI, (by decide : (⟨#[98, 97, 100]⟩ : ByteArray).size ≤ 7000000000000)⟩
  · unfold impl_s_ans.f; exact (Ev.pos h0 (Ev.neg (by rw [hW]; decide) (Ev.neg (by rw [hW]; decide) (Ev.neg (by rw [hW]; decide) (Ev.neg (by rw [hW]; decide) (Ev.neg (by rw [hW]; decide) (Ev.neg (hx _ (by decide)) (Ev.neg (hx _ (by decide)) (Ev.neg (hx _ (by decide)) (Ev.neg (hx _ (by decide)) (Ev.now _)))))))))))
  unfold spec_s_line.f; exact (Ev.pos h0 (Ev.bind e6 (Ev.bind e1 (Ev.neg (by rw [hW]; decide) (Ev.neg (by rw [hW]; decide) (Ev.neg (by rw [hW]; decide) (Ev.neg (by rw [hW]; decide) (Ev.neg (by rw [hW]; decide) (Ev.pos hW (Ev.neg hl (Ev.now _)))))))))))
theorem b_free {st : Sx} (hI : Inv st) {line : ByteArray} {ws : List ByteArray} (hz : line.size ≤ 20000) (hm : ws.map (·.data.toList) = cutM 32 line.data.toList) (h0 : 0 < ws.length) (hW : (rdOf ByteArray.empty ws 0).toList = ([102, 114, 101, 101] : List UInt8)) : Both (fun k => if 0 < ws.length then impl_s_ans.f k st line ws else none) (fun k => spec_s_line.f k st ws) := by
  have hwl := words_len hz hm
  have hdl : (ws.drop 1).length = ws.length - 1 := List.length_drop
  obtain ⟨p6, e6, q6⟩ := spec_nums (ws.drop 1) 6 (by omega)
  obtain ⟨p1, e1, q1⟩ := spec_nums (ws.drop 1) 1 (by omega)
  by_cases hl : ws.length = 1
  · have hline := line_of hm hl hW
    refine ⟨(if freeA st.1 st.2.1 st.2.2 = true then (⟨#[121, 101, 115]⟩ : ByteArray) else (⟨#[110, 111]⟩ : ByteArray), st), ?_, ?_, hI, by show (if freeA st.1 st.2.1 st.2.2 = true then (⟨#[121, 101, 115]⟩ : ByteArray) else (⟨#[110, 111]⟩ : ByteArray)).size ≤ _; split <;> decide⟩
    · unfold impl_s_ans.f; exact (Ev.pos h0 (Ev.neg (by rw [hW]; decide) (Ev.neg (by rw [hW]; decide) (Ev.neg (by rw [hW]; decide) (Ev.neg (by rw [hW]; decide) (Ev.neg (by rw [hW]; decide) (Ev.neg (by rw [hline]; decide) (Ev.neg (by rw [hline]; decide) (Ev.neg (by rw [hline]; decide) (Ev.pos hline (Ev.bind (impl_free st.1 st.2.1 st.2.2) (Ev.eq (Ev.now _) (by cases freeA st.1 st.2.1 st.2.2 <;> rfl)))))))))))))
    unfold spec_s_line.f; exact (Ev.pos h0 (Ev.bind e6 (Ev.bind e1 (Ev.neg (by rw [hW]; decide) (Ev.neg (by rw [hW]; decide) (Ev.neg (by rw [hW]; decide) (Ev.neg (by rw [hW]; decide) (Ev.neg (by rw [hW]; decide) (Ev.neg (by rw [hW]; decide) (Ev.neg (by rw [hW]; decide) (Ev.neg (by rw [hW]; decide) (Ev.pos hW (Ev.pos hl (Ev.bind (spec_free st.1 st.2.1 st.2.2) (Ev.eq (Ev.now _) (by cases freeA st.1 st.2.1 st.2.2 <;> rfl))))))))))))))))
  have hx := not_line hm hl
  refine ⟨((⟨#[98, 97, 100]⟩ : ByteArray), st), ?_, ?_, hI, (by decide : (⟨#[98, 97, 100]⟩ : ByteArray).size ≤ 7000000000000)⟩
  · unfold impl_s_ans.f; exact (Ev.pos h0 (Ev.neg (by rw [hW]; decide) (Ev.neg (by rw [hW]; decide) (Ev.neg (by rw [hW]; decide) (Ev.neg (by rw [hW]; decide) (Ev.neg (by rw [hW]; decide) (Ev.neg (hx _ (by decide)) (Ev.neg (hx _ (by decide)) (Ev.neg (hx _ (by decide)) (Ev.neg (hx _ (by decide)) (Ev.now _)))))))))))
  unfold spec_s_line.f; exact (Ev.pos h0 (Ev.bind e6 (Ev.bind e1 (Ev.neg (by rw [hW]; decide) (Ev.neg (by rw [hW]; decide) (Ev.neg (by rw [hW]; decide) (Ev.neg (by rw [hW]; decide) (Ev.neg (by rw [hW]; decide) (Ev.neg (by rw [hW]; decide) (Ev.neg (by rw [hW]; decide) (Ev.neg (by rw [hW]; decide) (Ev.pos hW (Ev.neg hl (Ev.now _))))))))))))))
theorem b_none {st : Sx} (hI : Inv st) {line : ByteArray} {ws : List ByteArray} (hz : line.size ≤ 20000) (hm : ws.map (·.data.toList) = cutM 32 line.data.toList) (h0 : 0 < ws.length) (hn_tube : ¬ (rdOf ByteArray.empty ws 0).toList = ([116, 117, 98, 101] : List UInt8)) (hn_box : ¬ (rdOf ByteArray.empty ws 0).toList = ([98, 111, 120] : List UInt8)) (hn_put : ¬ (rdOf ByteArray.empty ws 0).toList = ([112, 117, 116] : List UInt8)) (hn_drop : ¬ (rdOf ByteArray.empty ws 0).toList = ([100, 114, 111, 112] : List UInt8)) (hn_all : ¬ (rdOf ByteArray.empty ws 0).toList = ([97, 108, 108] : List UInt8)) (hn_with : ¬ (rdOf ByteArray.empty ws 0).toList = ([119, 105, 116, 104] : List UInt8)) (hn_meet : ¬ (rdOf ByteArray.empty ws 0).toList = ([109, 101, 101, 116] : List UInt8)) (hn_cut : ¬ (rdOf ByteArray.empty ws 0).toList = ([99, 117, 116] : List UInt8)) (hn_free : ¬ (rdOf ByteArray.empty ws 0).toList = ([102, 114, 101, 101] : List UInt8)) : Both (fun k => if 0 < ws.length then impl_s_ans.f k st line ws else none) (fun k => spec_s_line.f k st ws) := by
  have hwl := words_len hz hm
  have hdl : (ws.drop 1).length = ws.length - 1 := List.length_drop
  obtain ⟨p6, e6, q6⟩ := spec_nums (ws.drop 1) 6 (by omega)
  obtain ⟨p1, e1, q1⟩ := spec_nums (ws.drop 1) 1 (by omega)
  have hx := not_word hm
  refine ⟨((⟨#[98, 97, 100]⟩ : ByteArray), st), ?_, ?_, hI, (by decide : (⟨#[98, 97, 100]⟩ : ByteArray).size ≤ 7000000000000)⟩
  · unfold impl_s_ans.f; exact (Ev.pos h0 (Ev.neg hn_tube (Ev.neg hn_box (Ev.neg hn_drop (Ev.neg hn_meet (Ev.neg hn_cut (Ev.neg (hx _ (by decide) hn_put) (Ev.neg (hx _ (by decide) hn_all) (Ev.neg (hx _ (by decide) hn_with) (Ev.neg (hx _ (by decide) hn_free) (Ev.now _)))))))))))
  unfold spec_s_line.f; exact (Ev.pos h0 (Ev.bind e6 (Ev.bind e1 (Ev.neg hn_tube (Ev.neg hn_box (Ev.neg hn_put (Ev.neg hn_drop (Ev.neg hn_all (Ev.neg hn_with (Ev.neg hn_meet (Ev.neg hn_cut (Ev.neg hn_free (Ev.now _)))))))))))))
theorem drop_one {ws : List ByteArray} (hl : ws.length = 2) : ws.drop 1 = [(rdOf ByteArray.empty ws 1)] := by
  match ws, hl with
  | [_, _], _ => rfl
theorem b_cut {st : Sx} (hI : Inv st) {line : ByteArray} {ws : List ByteArray} (hz : line.size ≤ 20000) (hm : ws.map (·.data.toList) = cutM 32 line.data.toList) (h0 : 0 < ws.length) (hW : (rdOf ByteArray.empty ws 0).toList = ([99, 117, 116] : List UInt8)) : Both (fun k => if 0 < ws.length then impl_s_ans.f k st line ws else none) (fun k => spec_s_line.f k st ws) := by
  have hwl := words_len hz hm
  have hdl : (ws.drop 1).length = ws.length - 1 := List.length_drop
  obtain ⟨p6, e6, q6⟩ := spec_nums (ws.drop 1) 6 (by omega)
  obtain ⟨p1, e1, q1⟩ := spec_nums (ws.drop 1) 1 (by omega)
  by_cases hl : ws.length = 2
  · rw [drop_one hl] at q1
    rcases num_cases (rdOf ByteArray.empty ws 1) with ⟨h1, _, h3⟩ | ⟨n, h1, _, h3⟩
    · rw [numL_cons, h1] at q1
      have hq : ¬ p1.2 = true := by rw [show p1.2 = false from q1]; decide
      have hi := impl_dec (rdOf ByteArray.empty ws 1)
      rw [h3] at hi
      refine ⟨((⟨#[98, 97, 100]⟩ : ByteArray), st), ?_, ?_, hI, (by decide : (⟨#[98, 97, 100]⟩ : ByteArray).size ≤ 7000000000000)⟩
      · unfold impl_s_ans.f; exact (Ev.pos h0 (Ev.neg (by rw [hW]; decide) (Ev.neg (by rw [hW]; decide) (Ev.neg (by rw [hW]; decide) (Ev.neg (by rw [hW]; decide) (Ev.pos hW (Ev.pos hl (Ev.bind hi (Ev.neg (by decide) (Ev.now _))))))))))
      unfold spec_s_line.f; exact (Ev.pos h0 (Ev.bind e6 (Ev.bind e1 (Ev.neg (by rw [hW]; decide) (Ev.neg (by rw [hW]; decide) (Ev.neg (by rw [hW]; decide) (Ev.neg (by rw [hW]; decide) (Ev.neg (by rw [hW]; decide) (Ev.neg (by rw [hW]; decide) (Ev.neg (by rw [hW]; decide) (Ev.pos hW (Ev.neg hq (Ev.now _)))))))))))))
    rw [numL_cons, h1] at q1
    have hq : p1 = ([(n : Int)], true) := by simpa [spN, numL] using q1
    have hi := impl_dec (rdOf ByteArray.empty ws 1)
    rw [h3] at hi
    have hcl := cut_len st.2.1 st.2.2 (n : Int)
    have hbz := decB_le (n := (cut st.2.1 st.2.2 (n : Int)).2.length) (by omega)
    subst hq
    refine ⟨(decB (cut st.2.1 st.2.2 (n : Int)).2.length, (st.1, (cut st.2.1 st.2.2 (n : Int)).1, (cut st.2.1 st.2.2 (n : Int)).2)), ?_, ?_, ⟨hI.1, hcl⟩, by show (decB (cut st.2.1 st.2.2 (n : Int)).2.length).size ≤ _; omega⟩
    · unfold impl_s_ans.f; exact (Ev.pos h0 (Ev.neg (by rw [hW]; decide) (Ev.neg (by rw [hW]; decide) (Ev.neg (by rw [hW]; decide) (Ev.neg (by rw [hW]; decide) (Ev.pos hW (Ev.pos hl (Ev.bind hi (Ev.pos rfl (Ev.bind (impl_cut st.2.1 st.2.2 (n : Int)) (Ev.bind (Ev.is (itoa_ev _ (by omega))) (Ev.now _))))))))))))
    unfold spec_s_line.f; exact (Ev.pos h0 (Ev.bind e6 (Ev.bind e1 (Ev.neg (by rw [hW]; decide) (Ev.neg (by rw [hW]; decide) (Ev.neg (by rw [hW]; decide) (Ev.neg (by rw [hW]; decide) (Ev.neg (by rw [hW]; decide) (Ev.neg (by rw [hW]; decide) (Ev.neg (by rw [hW]; decide) (Ev.pos hW (Ev.pos rfl (Ev.pos Nat.zero_lt_one (Ev.bind (spec_cut st.2.1 st.2.2 (n : Int)) (Ev.bind (dec_itoa _ (by omega)) (Ev.now _))))))))))))))))
  have hq : ¬ p1.2 = true := by
    cases hn : numL (ws.drop 1) with
    | none => rw [hn] at q1; rw [show p1.2 = false from q1]; decide
    | some ns =>
      rw [hn] at q1
      rw [show p1 = ([] ++ ns, ((ws.drop 1).length : Int) == 1) from q1]
      simp only [beq_iff_eq]
      omega
  refine ⟨((⟨#[98, 97, 100]⟩ : ByteArray), st), ?_, ?_, hI, (by decide : (⟨#[98, 97, 100]⟩ : ByteArray).size ≤ 7000000000000)⟩
  · unfold impl_s_ans.f; exact (Ev.pos h0 (Ev.neg (by rw [hW]; decide) (Ev.neg (by rw [hW]; decide) (Ev.neg (by rw [hW]; decide) (Ev.neg (by rw [hW]; decide) (Ev.pos hW (Ev.neg hl (Ev.now _))))))))
  unfold spec_s_line.f; exact (Ev.pos h0 (Ev.bind e6 (Ev.bind e1 (Ev.neg (by rw [hW]; decide) (Ev.neg (by rw [hW]; decide) (Ev.neg (by rw [hW]; decide) (Ev.neg (by rw [hW]; decide) (Ev.neg (by rw [hW]; decide) (Ev.neg (by rw [hW]; decide) (Ev.neg (by rw [hW]; decide) (Ev.pos hW (Ev.neg hq (Ev.now _)))))))))))))
theorem b_box {st : Sx} (hI : Inv st) {line : ByteArray} {ws : List ByteArray} (hz : line.size ≤ 20000) (hm : ws.map (·.data.toList) = cutM 32 line.data.toList) (h0 : 0 < ws.length) (hW : (rdOf ByteArray.empty ws 0).toList = ([98, 111, 120] : List UInt8)) : Both (fun k => if 0 < ws.length then impl_s_ans.f k st line ws else none) (fun k => spec_s_line.f k st ws) := by
  have hwl := words_len hz hm
  have hdl : (ws.drop 1).length = ws.length - 1 := List.length_drop
  obtain ⟨p6, e6, q6⟩ := spec_nums (ws.drop 1) 6 (by omega)
  obtain ⟨p1, e1, q1⟩ := spec_nums (ws.drop 1) 1 (by omega)
  have hi := impl_nums (ws.drop 1) (by omega)
  cases hn : numL (ws.drop 1) with
  | none =>
    rw [hn] at q6 hi
    have hq : ¬ p6.2 = true := by rw [show p6.2 = false from q6]; decide
    by_cases hl : ws.length = 7
    · refine ⟨((⟨#[98, 97, 100]⟩ : ByteArray), st), ?_, ?_, hI, (by decide : (⟨#[98, 97, 100]⟩ : ByteArray).size ≤ 7000000000000)⟩
      · unfold impl_s_ans.f; exact (Ev.pos h0 (Ev.neg (by rw [hW]; decide) (Ev.pos hW (Ev.pos hl (Ev.bind hi (Ev.neg (by decide) (Ev.now _)))))))
      unfold spec_s_line.f; exact (Ev.pos h0 (Ev.bind e6 (Ev.bind e1 (Ev.neg (by rw [hW]; decide) (Ev.pos hW (Ev.neg hq (Ev.now _)))))))
    refine ⟨((⟨#[98, 97, 100]⟩ : ByteArray), st), ?_, ?_, hI, (by decide : (⟨#[98, 97, 100]⟩ : ByteArray).size ≤ 7000000000000)⟩
    · unfold impl_s_ans.f; exact (Ev.pos h0 (Ev.neg (by rw [hW]; decide) (Ev.pos hW (Ev.neg hl (Ev.now _)))))
    unfold spec_s_line.f; exact (Ev.pos h0 (Ev.bind e6 (Ev.bind e1 (Ev.neg (by rw [hW]; decide) (Ev.pos hW (Ev.neg hq (Ev.now _)))))))
  | some ns =>
    have hns := numL_len hn
    rw [hn] at q6 hi
    have hp : p6 = (ns, ((ws.drop 1).length : Int) == 6) := q6
    by_cases hl : ws.length = 7
    · have hq : p6 = (ns, true) := by rw [hp]; simp only [Prod.mk.injEq, true_and, beq_iff_eq]; omega
      subst hq
      have hi' : Ev (fun k => impl_numbers.f k (ws.drop 1)) (ns, true) := hi
      by_cases hf : boxOk (rd ns 0) (rd ns 1) (rd ns 2) (rd ns 3) (rd ns 4) (rd ns 5) = true ∧ st.2.2.length < 40
      · refine ⟨((⟨#[111, 107]⟩ : ByteArray), (st.1, st.2.1, st.2.2 ++ [(⟨rd ns 0, rd ns 1, rd ns 2, rd ns 3, rd ns 4, rd ns 5⟩ : S46)])), ?_, ?_, ⟨hI.1, by simp; omega⟩, (by decide : (⟨#[111, 107]⟩ : ByteArray).size ≤ 7000000000000)⟩
        · unfold impl_s_ans.f; exact (Ev.pos h0 (Ev.neg (by rw [hW]; decide) (Ev.pos hW (Ev.pos hl (Ev.bind hi' (Ev.pos rfl (Ev.pos (by show 6 ≤ ns.length; omega) (Ev.bind (Ev.is (impl_box (rd ns 0) (rd ns 1) (rd ns 2) (rd ns 3) (rd ns 4) (rd ns 5))) (Ev.pos hf (Ev.now _))))))))))
        unfold spec_s_line.f; exact (Ev.pos h0 (Ev.bind e6 (Ev.bind e1 (Ev.neg (by rw [hW]; decide) (Ev.pos hW (Ev.pos rfl (by unfold spec_s_box.f; exact Ev.pos (by show 6 ≤ ns.length; omega) (Ev.bind (Ev.is (spec_box (rd ns 0) (rd ns 1) (rd ns 2) (rd ns 3) (rd ns 4) (rd ns 5))) (Ev.pos hf (Ev.now _))))))))))
      refine ⟨((⟨#[110, 111]⟩ : ByteArray), st), ?_, ?_, hI, (by decide : (⟨#[110, 111]⟩ : ByteArray).size ≤ 7000000000000)⟩
      · unfold impl_s_ans.f; exact (Ev.pos h0 (Ev.neg (by rw [hW]; decide) (Ev.pos hW (Ev.pos hl (Ev.bind hi' (Ev.pos rfl (Ev.pos (by show 6 ≤ ns.length; omega) (Ev.bind (Ev.is (impl_box (rd ns 0) (rd ns 1) (rd ns 2) (rd ns 3) (rd ns 4) (rd ns 5))) (Ev.neg hf (Ev.now _))))))))))
      unfold spec_s_line.f; exact (Ev.pos h0 (Ev.bind e6 (Ev.bind e1 (Ev.neg (by rw [hW]; decide) (Ev.pos hW (Ev.pos rfl (by unfold spec_s_box.f; exact Ev.pos (by show 6 ≤ ns.length; omega) (Ev.bind (Ev.is (spec_box (rd ns 0) (rd ns 1) (rd ns 2) (rd ns 3) (rd ns 4) (rd ns 5))) (Ev.neg hf (Ev.now _))))))))))
    have hq : ¬ p6.2 = true := by rw [hp]; simp only [beq_iff_eq]; omega
    refine ⟨((⟨#[98, 97, 100]⟩ : ByteArray), st), ?_, ?_, hI, (by decide : (⟨#[98, 97, 100]⟩ : ByteArray).size ≤ 7000000000000)⟩
    · unfold impl_s_ans.f; exact (Ev.pos h0 (Ev.neg (by rw [hW]; decide) (Ev.pos hW (Ev.neg hl (Ev.now _)))))
    unfold spec_s_line.f; exact (Ev.pos h0 (Ev.bind e6 (Ev.bind e1 (Ev.neg (by rw [hW]; decide) (Ev.pos hW (Ev.neg hq (Ev.now _)))))))
theorem at_there {L : List S33} {s : ByteArray} (h : isThere L s = true) : atOf L s = (place L s : Int) := by unfold atOf; rw [if_pos h]
theorem at_not {L : List S33} {s : ByteArray} (h : isThere L s = false) : atOf L s = -1 := by unfold atOf; rw [if_neg (by rw [h]; decide)]
theorem tube_ok_at {L : List S33} (hL : skyOk L = true) {s : ByteArray} (h : isThere L s = true) : tubeOk (rd_T33 L (place L s : Int)).f0 (rd_T33 L (place L s : Int)).f1 = true := by
  obtain ⟨hi, _⟩ := there_at h
  rw [rd39 hi]
  exact (sky_len hL).2 _ (List.getElem_mem hi)
theorem b_meet {st : Sx} (hI : Inv st) {line : ByteArray} {ws : List ByteArray} (hz : line.size ≤ 20000) (hm : ws.map (·.data.toList) = cutM 32 line.data.toList) (h0 : 0 < ws.length) (hW : (rdOf ByteArray.empty ws 0).toList = ([109, 101, 101, 116] : List UInt8)) : Both (fun k => if 0 < ws.length then impl_s_ans.f k st line ws else none) (fun k => spec_s_line.f k st ws) := by
  have hwl := words_len hz hm
  have hdl : (ws.drop 1).length = ws.length - 1 := List.length_drop
  obtain ⟨p6, e6, q6⟩ := spec_nums (ws.drop 1) 6 (by omega)
  obtain ⟨p1, e1, q1⟩ := spec_nums (ws.drop 1) 1 (by omega)
  have a1 := at_ev hI.1 (rdOf ByteArray.empty ws 1)
  have a2 := at_ev hI.1 (rdOf ByteArray.empty ws 2)
  by_cases hl : ws.length = 3
  rotate_left
  · refine ⟨((⟨#[98, 97, 100]⟩ : ByteArray), st), ?_, ?_, hI, (by decide : (⟨#[98, 97, 100]⟩ : ByteArray).size ≤ 7000000000000)⟩
    · unfold impl_s_ans.f; exact (Ev.pos h0 (Ev.neg (by rw [hW]; decide) (Ev.neg (by rw [hW]; decide) (Ev.neg (by rw [hW]; decide) (Ev.pos hW (Ev.neg hl (Ev.now _)))))))
    unfold spec_s_line.f; exact (Ev.pos h0 (Ev.bind e6 (Ev.bind e1 (Ev.neg (by rw [hW]; decide) (Ev.neg (by rw [hW]; decide) (Ev.neg (by rw [hW]; decide) (Ev.neg (by rw [hW]; decide) (Ev.neg (by rw [hW]; decide) (Ev.neg (by rw [hW]; decide) (Ev.pos hW (Ev.neg hl (Ev.now _))))))))))))
  by_cases h1 : isThere st.1 (rdOf ByteArray.empty ws 1) = true ∧ isThere st.1 (rdOf ByteArray.empty ws 2) = true
  · have t1 := tube_there hI.1 h1.1
    have t2 := tube_there hI.1 h1.2
    have k1 := tube_ok_at hI.1 h1.1
    have k2 := tube_ok_at hI.1 h1.2
    have l1 := (there_at h1.1).1
    have l2 := (there_at h1.2).1
    rw [at_there h1.1] at a1
    rw [at_there h1.2] at a2
    have hco := clOk_enc k1 k2
    have mi := impl_meet (rd_T33 st.1 (place st.1 (rdOf ByteArray.empty ws 1) : Int)).f0 (rd_T33 st.1 (place st.1 (rdOf ByteArray.empty ws 1) : Int)).f1 (rd_T33 st.1 (place st.1 (rdOf ByteArray.empty ws 2) : Int)).f0 (rd_T33 st.1 (place st.1 (rdOf ByteArray.empty ws 2) : Int)).f1
    have ms := spec_meet (rd_T33 st.1 (place st.1 (rdOf ByteArray.empty ws 1) : Int)).f0 (rd_T33 st.1 (place st.1 (rdOf ByteArray.empty ws 1) : Int)).f1 (rd_T33 st.1 (place st.1 (rdOf ByteArray.empty ws 2) : Int)).f0 (rd_T33 st.1 (place st.1 (rdOf ByteArray.empty ws 2) : Int)).f1
    have hme : meet (rd_T33 st.1 (place st.1 (rdOf ByteArray.empty ws 1) : Int)).f0 (rd_T33 st.1 (place st.1 (rdOf ByteArray.empty ws 1) : Int)).f1 (rd_T33 st.1 (place st.1 (rdOf ByteArray.empty ws 2) : Int)).f0 (rd_T33 st.1 (place st.1 (rdOf ByteArray.empty ws 2) : Int)).f1 = enc (rd_T33 st.1 (place st.1 (rdOf ByteArray.empty ws 1) : Int)).f0 (rd_T33 st.1 (place st.1 (rdOf ByteArray.empty ws 2) : Int)).f0 (meetSt (rd_T33 st.1 (place st.1 (rdOf ByteArray.empty ws 1) : Int)).f1 (rd_T33 st.1 (place st.1 (rdOf ByteArray.empty ws 2) : Int)).f1) := by unfold meet; rw [if_pos ⟨k1, k2⟩]
    rw [hme] at mi ms
    generalize hc : enc (rd_T33 st.1 (place st.1 (rdOf ByteArray.empty ws 1) : Int)).f0 (rd_T33 st.1 (place st.1 (rdOf ByteArray.empty ws 2) : Int)).f0 (meetSt (rd_T33 st.1 (place st.1 (rdOf ByteArray.empty ws 1) : Int)).f1 (rd_T33 st.1 (place st.1 (rdOf ByteArray.empty ws 2) : Int)).f1) = m at mi ms hco
    have ci := clOf_impl hco
    have cs := clOf_spec hco
    have csz := (clOf_size hco).2
    have hz1 : ¬ ((place st.1 (rdOf ByteArray.empty ws 1) : Int) < 0 ∨ (place st.1 (rdOf ByteArray.empty ws 2) : Int) < 0) := by omega
    have hz2 : (place st.1 (rdOf ByteArray.empty ws 1) : Int) < (st.1.length : Int) ∧ (place st.1 (rdOf ByteArray.empty ws 2) : Int) < (st.1.length : Int) := by omega
    by_cases hf : m.2.2.2.2.2 = true
    · refine ⟨(clOf (mkC m), st), ?_, ?_, hI, by show (clOf (mkC m)).size ≤ _; omega⟩
      · unfold impl_s_ans.f; exact (Ev.pos h0 (Ev.neg (by rw [hW]; decide) (Ev.neg (by rw [hW]; decide) (Ev.neg (by rw [hW]; decide) (Ev.pos hW (Ev.pos hl (Ev.pos (by rw [t1, t2]; exact ⟨rfl, rfl⟩) (by rw [t1, t2]; exact Ev.bind mi (Ev.pos hf (Ev.bind (Ev.is ci) (Ev.now _)))))))))))
      unfold spec_s_line.f; exact (Ev.pos h0 (Ev.bind e6 (Ev.bind e1 (Ev.neg (by rw [hW]; decide) (Ev.neg (by rw [hW]; decide) (Ev.neg (by rw [hW]; decide) (Ev.neg (by rw [hW]; decide) (Ev.neg (by rw [hW]; decide) (Ev.neg (by rw [hW]; decide) (Ev.pos hW (Ev.pos hl (Ev.bind (a := clOf (mkC m)) (by unfold spec_s_meet.f; exact Ev.bind a1 (Ev.bind a2 (Ev.neg hz1 (Ev.pos hz2 (Ev.bind ms (Ev.pos hf cs)))))) (Ev.now _)))))))))))))
    refine ⟨((⟨#[110, 101, 118, 101, 114]⟩ : ByteArray), st), ?_, ?_, hI, (by decide : (⟨#[110, 101, 118, 101, 114]⟩ : ByteArray).size ≤ 7000000000000)⟩
    · unfold impl_s_ans.f; exact (Ev.pos h0 (Ev.neg (by rw [hW]; decide) (Ev.neg (by rw [hW]; decide) (Ev.neg (by rw [hW]; decide) (Ev.pos hW (Ev.pos hl (Ev.pos (by rw [t1, t2]; exact ⟨rfl, rfl⟩) (by rw [t1, t2]; exact Ev.bind mi (Ev.neg hf (Ev.now _))))))))))
    unfold spec_s_line.f; exact (Ev.pos h0 (Ev.bind e6 (Ev.bind e1 (Ev.neg (by rw [hW]; decide) (Ev.neg (by rw [hW]; decide) (Ev.neg (by rw [hW]; decide) (Ev.neg (by rw [hW]; decide) (Ev.neg (by rw [hW]; decide) (Ev.neg (by rw [hW]; decide) (Ev.pos hW (Ev.pos hl (Ev.bind (a := (⟨#[110, 101, 118, 101, 114]⟩ : ByteArray)) (by unfold spec_s_meet.f; exact Ev.bind a1 (Ev.bind a2 (Ev.neg hz1 (Ev.pos hz2 (Ev.bind ms (Ev.neg hf (Ev.now _))))))) (Ev.now _)))))))))))))
  have hnt : ¬ ((impl_s_tube.f st.1 (rdOf ByteArray.empty ws 1)).2.2 = true ∧ (impl_s_tube.f st.1 (rdOf ByteArray.empty ws 2)).2.2 = true) := by
    intro hh
    refine h1 ⟨?_, ?_⟩
    · cases hc : isThere st.1 (rdOf ByteArray.empty ws 1) with
      | true => rfl
      | false => rw [tube_not hI.1 hc] at hh; exact absurd hh.1 (by decide)
    · cases hc : isThere st.1 (rdOf ByteArray.empty ws 2) with
      | true => rfl
      | false => rw [tube_not hI.1 hc] at hh; exact absurd hh.2 (by decide)
  have hng : atOf st.1 (rdOf ByteArray.empty ws 1) < 0 ∨ atOf st.1 (rdOf ByteArray.empty ws 2) < 0 := by
    cases hc : isThere st.1 (rdOf ByteArray.empty ws 1) with
    | false => rw [at_not hc]; exact Or.inl (by decide)
    | true => cases hd : isThere st.1 (rdOf ByteArray.empty ws 2) with
      | false => rw [at_not hd]; exact Or.inr (by decide)
      | true => exact absurd ⟨hc, hd⟩ h1
  refine ⟨((⟨#[110, 111, 110, 101]⟩ : ByteArray), st), ?_, ?_, hI, (by decide : (⟨#[110, 111, 110, 101]⟩ : ByteArray).size ≤ 7000000000000)⟩
  · unfold impl_s_ans.f; exact (Ev.pos h0 (Ev.neg (by rw [hW]; decide) (Ev.neg (by rw [hW]; decide) (Ev.neg (by rw [hW]; decide) (Ev.pos hW (Ev.pos hl (Ev.neg hnt (Ev.now _))))))))
  unfold spec_s_line.f; exact (Ev.pos h0 (Ev.bind e6 (Ev.bind e1 (Ev.neg (by rw [hW]; decide) (Ev.neg (by rw [hW]; decide) (Ev.neg (by rw [hW]; decide) (Ev.neg (by rw [hW]; decide) (Ev.neg (by rw [hW]; decide) (Ev.neg (by rw [hW]; decide) (Ev.pos hW (Ev.pos hl (Ev.bind (a := (⟨#[110, 111, 110, 101]⟩ : ByteArray)) (by unfold spec_s_meet.f; exact Ev.bind a1 (Ev.bind a2 (Ev.pos hng (Ev.now _)))) (Ev.now _)))))))))))))
theorem both_line {st : Sx} (hI : Inv st) {line : ByteArray} {ws : List ByteArray} (hz : line.size ≤ 20000) (hm : ws.map (·.data.toList) = cutM 32 line.data.toList) (h0 : 0 < ws.length) : Both (fun k => if 0 < ws.length then impl_s_ans.f k st line ws else none) (fun k => spec_s_line.f k st ws) := by
  by_cases h_tube : (rdOf ByteArray.empty ws 0).toList = ([116, 117, 98, 101] : List UInt8)
  · exact b_tube hI hz hm h0 h_tube
  by_cases h_box : (rdOf ByteArray.empty ws 0).toList = ([98, 111, 120] : List UInt8)
  · exact b_box hI hz hm h0 h_box
  by_cases h_put : (rdOf ByteArray.empty ws 0).toList = ([112, 117, 116] : List UInt8)
  · exact b_put hI hz hm h0 h_put
  by_cases h_drop : (rdOf ByteArray.empty ws 0).toList = ([100, 114, 111, 112] : List UInt8)
  · exact b_drop hI hz hm h0 h_drop
  by_cases h_all : (rdOf ByteArray.empty ws 0).toList = ([97, 108, 108] : List UInt8)
  · exact b_all hI hz hm h0 h_all
  by_cases h_with : (rdOf ByteArray.empty ws 0).toList = ([119, 105, 116, 104] : List UInt8)
  · exact b_with hI hz hm h0 h_with
  by_cases h_meet : (rdOf ByteArray.empty ws 0).toList = ([109, 101, 101, 116] : List UInt8)
  · exact b_meet hI hz hm h0 h_meet
  by_cases h_cut : (rdOf ByteArray.empty ws 0).toList = ([99, 117, 116] : List UInt8)
  · exact b_cut hI hz hm h0 h_cut
  by_cases h_free : (rdOf ByteArray.empty ws 0).toList = ([102, 114, 101, 101] : List UInt8)
  · exact b_free hI hz hm h0 h_free
  exact b_none hI hz hm h0 h_tube h_box h_put h_drop h_all h_with h_meet h_cut h_free
theorem both_answer {st : Sx} (hI : Inv st) {line : ByteArray} (hz : line.size ≤ 20000) : Both (fun k => impl_s_answer.f k st line) (fun k => (spec_l7Cut.f k line 32).bind fun ws => spec_s_line.f k st ws) := by
  obtain ⟨ws, h1, h2, hm⟩ := cut_same line 32 (by omega)
  have h0 : 0 < ws.length := by
    have h3 := cutM_ne 32 line.data.toList
    rw [← hm] at h3
    rcases Nat.eq_zero_or_pos ws.length with h | h
    · rw [List.length_eq_zero_iff.1 h] at h3
      exact absurd rfl h3
    · exact h
  obtain ⟨p, ha, hb, hi, hs⟩ := both_line hI hz hm h0
  refine ⟨p, ?_, Ev.bind h2 hb, hi, hs⟩
  unfold impl_s_answer.f
  exact Ev.bind (Ev.is h1) ha
theorem run_both : ∀ (ls : List ByteArray) (st : Sx) (out : ByteArray), Inv st → (∀ l ∈ ls, l.size ≤ 20000) → out.size + ls.length * 7000000000001 ≤ 9223372036854775807 →
    ∃ r, Ev (fun k => impl_s_run.f k ls st out) r ∧ Ev (fun k => spec_s_run.f k ls st out) r
  | [], _, out, _, _, _ => ⟨out, Ev.now _, Ev.now _⟩
  | l :: ls, st, out, hI, hl, hz => by
    obtain ⟨p, ha, hb, hi, hs⟩ := both_answer hI (hl l (by simp))
    rw [List.length_cons] at hz
    have h1 : (⟨#[10]⟩ : ByteArray).size = 1 := rfl
    obtain ⟨r, h2, h3⟩ := run_both ls p.2 (out ++ (p.1 ++ (⟨#[10]⟩ : ByteArray))) hi (fun x hx => hl x (by simp [hx])) (by rw [ByteArray.size_append, ByteArray.size_append, h1]; omega)
    refine ⟨r, ?_, ?_⟩
    · exact Ev.congr (fun k => rfl) (Ev.bind ha (Ev.pos (by omega) h2))
    · have hb' := hb
      refine Ev.congr (f := fun k => ((spec_l7Cut.f k l 32).bind fun ws => spec_s_line.f k st ws).bind fun pr => if out.size + pr.1.size ≤ 9223372036854775807 ∧ out.size + pr.1.size + 1 ≤ 9223372036854775807 then spec_s_run.f k ls pr.2 (out ++ pr.1 ++ (⟨#[10]⟩ : ByteArray)) else none) (fun k => ?_) (Ev.bind hb (Ev.pos (by omega) ?_))
      · rw [Option.bind_assoc]
        rfl
      · rw [ByteArray.append_assoc]
        exact h3
theorem cutM_mem {c : UInt8} : ∀ {l p : List UInt8}, p ∈ cutM c l → p.length ≤ l.length
  | [], p, h => by
    simp only [cutM, List.mem_singleton] at h
    rw [h]
    exact Nat.le_refl _
  | b :: l, p, h => by
    have hn := cutM_ne c l
    unfold cutM at h
    split at h
    · rcases List.mem_cons.1 h with e | e
      · rw [e]; exact Nat.zero_le _
      · have := cutM_mem e
        rw [List.length_cons]
        omega
    · cases hc : cutM c l with
      | nil => exact absurd hc hn
      | cons q t =>
        rw [hc] at h
        simp only [List.headD_cons, List.tail_cons] at h
        rcases List.mem_cons.1 h with e | e
        · have := cutM_mem (c := c) (l := l) (p := q) (by rw [hc]; simp)
          rw [e]
          simp only [List.length_cons]
          omega
        · have := cutM_mem (c := c) (l := l) (p := p) (by rw [hc]; simp [e])
          rw [List.length_cons]
          omega
theorem trim_mem {ls : List ByteArray} {x : ByteArray} (h : x ∈ Sn.trim ls) : x ∈ ls := by
  unfold Sn.trim at h
  split at h
  · exact List.mem_of_mem_take h
  exact h
theorem session_both (text : ByteArray) (hs : text.size ≤ 1048576) : ∃ r, Ev (fun k => impl_ProbeSession.f k text) r ∧ Ev (fun k => spec_ProbeSession.f k text) r := by
  obtain ⟨ls, h1, h2, hm⟩ := cut_same text 10 hs
  have h0 : 0 < ls.length := by
    have h3 := cutM_ne 10 text.data.toList
    rw [← hm] at h3
    rcases Nat.eq_zero_or_pos ls.length with h | h
    · rw [List.length_eq_zero_iff.1 h] at h3
      exact absurd rfl h3
    · exact h
  by_cases hc : 20000 < text.size ∨ 400 < (Sn.trim ls).length
  · refine ⟨(⟨#[116, 111, 111, 32, 108, 111, 110, 103, 10]⟩ : ByteArray), ?_, ?_⟩
    · unfold impl_ProbeSession.f
      exact Ev.bind (Ev.is h1) (Ev.pos h0 (Ev.pos hc (Ev.now _)))
    unfold spec_ProbeSession.f
    exact Ev.bind h2 (Ev.pos h0 (Ev.pos hc (Ev.now _)))
  have hi : Inv (([], (⟨#[]⟩ : ByteArray), []) : Sx) := ⟨rfl, Nat.zero_le _⟩
  have he : (⟨#[]⟩ : ByteArray).size = 0 := rfl
  have hb : ∀ x ∈ Sn.trim ls, x.size ≤ 20000 := by
    intro x hx
    have hy := List.mem_map_of_mem (f := fun y : ByteArray => y.data.toList) (trim_mem hx)
    rw [hm] at hy
    have h4 := cutM_mem hy
    have h5 : x.data.toList.length = x.size := rfl
    have h6 : text.data.toList.length = text.size := rfl
    omega
  obtain ⟨r, h3, h4⟩ := run_both (Sn.trim ls) (([], (⟨#[]⟩ : ByteArray), []) : Sx) (⟨#[]⟩ : ByteArray) hi hb (by rw [he]; omega)
  refine ⟨r, ?_, ?_⟩
  · unfold impl_ProbeSession.f
    exact Ev.bind (Ev.is h1) (Ev.pos h0 (Ev.neg hc h3))
  unfold spec_ProbeSession.f
  exact Ev.bind h2 (Ev.pos h0 (Ev.neg hc h4))
end Go.Proofs.YtjelgpmhbaiipaaGreatDoor.Q
end
section
namespace Go.Proofs.YtjelgpmhbaiipaaGreatDoor.Pure
set_option linter.unusedVariables false
set_option linter.unusedSimpArgs false
open Go.RowKit Go.Proofs.YtjelgpmhbaiipaaGreatDoor.PA Go.Proofs.YtjelgpmhbaiipaaGreatDoor.Q Go.Proofs.YtjelgpmhbaiipaaGreatDoorW.PrintWords Go.Proofs.YtjelgpmhbaiipaaGreatDoorW.PrintLast Go.Proofs.YtjelgpmhbaiipaaGreatDoorW.PrintMore
end Go.Proofs.YtjelgpmhbaiipaaGreatDoor.Pure
end
end
section
namespace Go.Proofs.YtjelgpmhbaiipaaGreatDoor.Q
set_option linter.unusedVariables false
set_option linter.unusedSimpArgs false
open Go.RowKit Go.Proofs.YtjelgpmhbaiipaaGreatDoor.PA Go.Proofs.YtjelgpmhbaiipaaGreatDoorW.PrintWords Go.Proofs.YtjelgpmhbaiipaaGreatDoorW.PrintLast Go.Proofs.YtjelgpmhbaiipaaGreatDoorW.PrintMore
def Bs (b : List Int) : Prop := (∀ x ∈ b, 0 ≤ x ∧ x ≤ 255) ∧ b.length ≤ 2000
theorem wr {x : Int} (h : -9223372036854775808 ≤ x) (h' : x ≤ 9223372036854775807) : wrap64 x = x := by
 unfold wrap64
 omega
theorem rd_bs {b : List Int} (hb : Bs b) (i : Int) : 0 ≤ rd b i ∧ rd b i ≤ 255 := by
 unfold rd
 rcases Nat.lt_or_ge i.toNat b.length with h | h
 ·rw [List.getD_eq_getElem?_getD, List.getElem?_eq_getElem h]
  exact hb.1 _ (List.getElem_mem h)
 rw [List.getD_eq_getElem?_getD, List.getElem?_eq_none h]
 simp
theorem tm {a n : Int} (h0 : 0 ≤ a) (hn : 0 < n) : 0 ≤ Int.tmod a n ∧ Int.tmod a n < n := ⟨Int.tmod_nonneg n h0, Int.tmod_lt_of_pos a hn⟩
theorem td {a n : Int} (h0 : 0 ≤ a) (hn : 0 < n) : 0 ≤ Int.tdiv a n ∧ Int.tdiv a n ≤ a := by
 rw [Int.tdiv_eq_ediv_of_nonneg h0]
 exact ⟨Int.ediv_nonneg h0 (by omega), Int.ediv_le_self n h0⟩
theorem xor_pos {x y : Int} (h0 : 0 ≤ x) (h1 : x < 4611686018427387904) (h2 : 0 ≤ y) (h3 : y < 4611686018427387904) : 0 ≤ Go.bits .xor .i64 x y := by
 obtain ⟨a, rfl⟩ := Int.eq_ofNat_of_zero_le h0
 obtain ⟨b, rfl⟩ := Int.eq_ofNat_of_zero_le h2
 have e : ∀ n : Nat, n < 9223372036854775808 → (BitVec.ofInt 64 (n : Int)).toNat = n := fun n hn => by
  rw [BitVec.ofInt_natCast, BitVec.toNat_ofNat]
  exact Nat.mod_eq_of_lt (by omega)
 have hx : a ^^^ b < 2 ^ 62 := Nat.xor_lt_two_pow (by omega) (by omega)
 show 0 ≤ IntKind.i64.wrap ((BitVec.ofInt 64 (a : Int) ^^^ BitVec.ofInt 64 (b : Int)).toNat : Int)
 rw [BitVec.toNat_xor, e a (by omega), e b (by omega), IntKind.wrap_i64]
 omega
theorem pick_ev {b : List Int} (hb : Bs b) {p : Int} (h0 : 0 ≤ p) (h1 : p ≤ 1000000) (n : Int) : ∃ r, Ev (fun k => spec_l1Rd_pick.f k b p n) (r, p + 1) ∧ 0 ≤ r ∧ (1 ≤ n → r < n) := by
 have w1 : wrap64 (p + 1) = p + 1 := wr (by omega) (by omega)
 have w2 : wrap64 (p + 1 - 1) = p := by rw [show p + 1 - 1 = p by omega]; exact wr (by omega) (by omega)
 by_cases hn : n < 1
 ·refine ⟨0, ⟨1, fun k hk => ?_⟩, Int.le_refl _, fun h => by omega⟩
  obtain ⟨k, rfl⟩ : ∃ m, k = m + 1 := ⟨k - 1, by omega⟩
  simp only [spec_l1Rd_pick.f, spec_l1Rd_pick.j0]
  rw [if_pos hn, w1]
  rfl
 by_cases hl : b.length = 0
 ·refine ⟨0, ⟨1, fun k hk => ?_⟩, Int.le_refl _, fun h => by omega⟩
  obtain ⟨k, rfl⟩ : ∃ m, k = m + 1 := ⟨k - 1, by omega⟩
  simp only [spec_l1Rd_pick.f, spec_l1Rd_pick.j0]
  rw [if_neg hn, w1, if_pos (by simp [hl])]
 have hlp : (0 : Int) < b.length := by omega
 have hl2 : b.length ≤ 2000 := hb.2
 by_cases hp : p < (b.length : Int)
 ·have hr := rd_bs hb p
  have ht := tm (a := rd b p) (n := n) hr.1 (by omega)
  refine ⟨Int.tmod (rd b p) n, ⟨1, fun k hk => ?_⟩, ht.1, fun _ => ht.2⟩
  obtain ⟨k, rfl⟩ : ∃ m, k = m + 1 := ⟨k - 1, by omega⟩
  simp only [spec_l1Rd_pick.f, spec_l1Rd_pick.j0]
  rw [if_neg hn, w1, w2, if_neg (by simpa using hl), if_pos hp, if_pos h0, if_neg (by omega), wr (by omega) (by omega)]
 have i1 := tm (a := p) h0 hlp
 have w3 : wrap64 (p * 7) = p * 7 := wr (by omega) (by omega)
 have w4 : wrap64 (p * 7 + 3) = p * 7 + 3 := wr (by omega) (by omega)
 have i2 := tm (a := p * 7 + 3) (by omega) hlp
 have r1 := rd_bs hb (Int.tmod p b.length)
 have r2 := rd_bs hb (Int.tmod (p * 7 + 3) b.length)
 have d1 := td (a := p) h0 hlp
 generalize ha : rd b (Int.tmod p b.length) = a at r1
 generalize hc : rd b (Int.tmod (p * 7 + 3) b.length) = c at r2
 generalize hd : Int.tdiv p b.length = d at d1
 have x0 : 0 ≤ a * 131 + c * 1117 + p * 29 + d * 53 := by omega
 have x1 : a * 131 + c * 1117 + p * 29 + d * 53 ≤ 1000000000 := by omega
 have d2 := td (a := a * 131 + c * 1117 + p * 29 + d * 53) (n := 64) x0 (by omega)
 have hx := xor_pos x0 (by omega) d2.1 (by omega)
 have ht := tm (n := n) hx (by omega)
 refine ⟨Int.tmod (Go.bits .xor .i64 (a * 131 + c * 1117 + p * 29 + d * 53) (Int.tdiv (a * 131 + c * 1117 + p * 29 + d * 53) 64)) n, ⟨1, fun k hk => ?_⟩, ht.1, fun _ => ht.2⟩
 obtain ⟨k, rfl⟩ : ∃ m, k = m + 1 := ⟨k - 1, by omega⟩
 simp only [spec_l1Rd_pick.f, spec_l1Rd_pick.j0]
 rw [if_neg hn, w1, w2, if_neg (by simpa using hl), if_neg hp, if_neg (by omega), if_pos i1.1, if_pos i1.2, w3, w4, if_pos i2.1, if_pos i2.2, if_neg (by omega), ha, hc, hd,
  wr (x := a) (by omega) (by omega), wr (x := a * 131) (by omega) (by omega), wr (x := c) (by omega) (by omega), wr (x := c * 1117) (by omega) (by omega), wr (x := a * 131 + c * 1117) (by omega) (by omega), wr (x := p * 29) (by omega) (by omega),
  wr (x := a * 131 + c * 1117 + p * 29) (by omega) (by omega), wr (x := d) (by omega) (by omega), wr (x := d * 53) (by omega) (by omega), wr (x := a * 131 + c * 1117 + p * 29 + d * 53) (by omega) (by omega), wr (x := Int.tdiv (a * 131 + c * 1117 + p * 29 + d * 53) 64) (by omega) (by omega)]
theorem open_ev (l : List Int) (h : ∀ x ∈ l, 0 ≤ x ∧ x ≤ 255) : ∃ b, spec_l1Open.f l = some (b, 0) ∧ Bs b := by
 unfold spec_l1Open.f
 by_cases hl : (l.length : Int) > 2000
 ·rw [if_pos hl, if_pos (by omega)]
  exact ⟨_, rfl, fun x hx => h x (List.mem_of_mem_take hx), by simp; omega⟩
 rw [if_neg hl]
 exact ⟨_, rfl, h, by omega⟩
theorem of_ev {b : List Int} (hb : Bs b) {p : Int} (h0 : 0 ≤ p) (h1 : p ≤ 1000000) (l : List ByteArray) (hl : 0 < l.length) : ∃ s, Ev (fun k => spec_l1Rd_of.f k b p l) (s, p + 1) ∧ s ∈ l := by
 obtain ⟨r, hr, r0, r1⟩ := pick_ev hb h0 h1 (l.length : Int)
 have r2 := r1 (by omega)
 have hlt : r.toNat < l.length := by omega
 refine ⟨l[r.toNat], ?_, List.getElem_mem hlt⟩
 unfold spec_l1Rd_of.f
 refine Ev.bind hr (Ev.pos r0 (Ev.pos r2 (Ev.is ?_)))
 unfold rdOf
 simp [hlt]
def Rg (n : Int) : Prop := -9223372036854775808 ≤ n ∧ n ≤ 9223372036854775807
def Wf (x : S46) : Prop := Rg x.f0 ∧ Rg x.f1 ∧ Rg x.f2 ∧ Rg x.f3 ∧ Rg x.f4 ∧ Rg x.f5
theorem wR (x : Int) : Rg (wrap64 x) := by
 unfold Rg wrap64
 omega
theorem rdR {l : List Int} (h : ∀ x ∈ l, Rg x) (i : Int) : Rg (rd l i) := by
 unfold rd
 rcases Nat.lt_or_ge i.toNat l.length with h' | h'
 ·rw [List.getD_eq_getElem?_getD, List.getElem?_eq_getElem h']
  exact h _ (List.getElem_mem h')
 rw [List.getD_eq_getElem?_getD, List.getElem?_eq_none h']
 unfold Rg
 simp
theorem many_ev (n : Nat) : ∀ x acc : ByteArray, n ≤ 100000 → x.size * n + acc.size ≤ 1000000 → ∃ r, Ev (fun k => spec_l1Many.l0 k x (n : Int) acc) r ∧ r.size ≤ acc.size + x.size * n := by
 induction n using Nat.strongRecOn with
 | ind n ih =>
  intro x acc hn h
  by_cases h0 : n = 0
  ·subst h0
   exact ⟨acc, Ev.step (g := fun k => spec_l1Many.l0 k x ((0 : Nat) : Int) acc) (fun k => spec_l1Many.l0.eq_2 ..) (Ev.neg (by omega) (Ev.now _)), by omega⟩
  have hd : wrap64 (Int.tdiv (n : Int) 2) = ((n / 2 : Nat) : Int) := by
   rw [Int.tdiv_eq_ediv_of_nonneg (by omega), wr (by omega) (by omega)]
   omega
  have hxx : (x ++ x).size = x.size + x.size := by simp
  have hxa : (acc ++ x).size = acc.size + x.size := by simp
  have hm : x.size ≤ x.size * n := Nat.le_mul_of_pos_right _ (by omega)
  have h2 : 2 * (x.size * (n / 2)) ≤ x.size * n := by
   rw [Nat.mul_left_comm]
   exact Nat.mul_le_mul_left _ (by omega)
  have h4 : (x ++ x).size * (n / 2) = 2 * (x.size * (n / 2)) := by rw [hxx, Nat.add_mul]; omega
  by_cases ho : Int.tmod (n : Int) 2 = 1
  ·have ho' : n % 2 = 1 := by
    rw [Int.tmod_eq_emod_of_nonneg (by omega)] at ho
    omega
   have h5 : 2 * (x.size * (n / 2)) + x.size = x.size * n := by
    have e : n = 2 * (n / 2) + 1 := by omega
    conv => rhs; rw [e]
    rw [Nat.mul_add, Nat.mul_one, Nat.mul_left_comm]
   obtain ⟨r, hr, hs⟩ := ih (n / 2) (by omega) (x ++ x) (acc ++ x) (by omega) (by rw [h4, hxa]; omega)
   rw [h4, hxa] at hs
   refine ⟨r, Ev.step (g := fun k => spec_l1Many.l0 k x (n : Int) acc) (fun k => spec_l1Many.l0.eq_2 ..) (Ev.pos (by omega) (Ev.pos ho (Ev.pos (by omega) (Ev.pos (by omega) (by rw [hd]; exact hr))))), by omega⟩
  obtain ⟨r, hr, hs⟩ := ih (n / 2) (by omega) (x ++ x) acc (by omega) (by rw [h4]; omega)
  rw [h4] at hs
  refine ⟨r, Ev.step (g := fun k => spec_l1Many.l0 k x (n : Int) acc) (fun k => spec_l1Many.l0.eq_2 ..) (Ev.pos (by omega) (Ev.neg ho (Ev.pos (by omega) (by rw [hd]; exact hr)))), by omega⟩
theorem str_1 (x : Int) : (strOfNums [x]).size = 1 := strOfNums_size [x]
theorem dec_m : ∀ (m : Nat) (n : Int), m ≤ 50 → n < 10 ^ (m + 1) → Rg n → ∃ s, Ev (fun k => spec_l7Dec.f k n) s ∧ s.size ≤ m + 1
  | 0, n, _, h, _ => ⟨_, Ev.step (fun k => spec_l7Dec.f.eq_2 ..) (Ev.pos (by simpa using h) (Ev.now _)), by rw [str_1]; omega⟩
  | m + 1, n, hm, h, hr => by
    by_cases h9 : n < 10
    · exact ⟨_, Ev.step (fun k => spec_l7Dec.f.eq_2 ..) (Ev.pos h9 (Ev.now _)), by rw [str_1]; omega⟩
    · have hd : wrap64 (Int.tdiv n 10) = n / 10 := by
        unfold Rg at hr
        rw [Int.tdiv_eq_ediv_of_nonneg (by omega), wr (by omega) (by omega)]
      have e : (10 : Int) ^ (m + 1 + 1) = 10 ^ (m + 1) * 10 := Int.pow_succ ..
      obtain ⟨s, hs, hz⟩ := dec_m m (n / 10) (by omega) (by omega) (by unfold Rg at hr ⊢; omega)
      rw [← hd] at hs
      refine ⟨_, Ev.step (fun k => spec_l7Dec.f.eq_2 ..) (Ev.neg h9 (Ev.bind hs (Ev.bind (Ev.now _) (Ev.pos ?_ (Ev.now _))))), ?_⟩
      · rw [str_1]; omega
      · rw [ByteArray.size_append, str_1]; omega
theorem dec_r {n : Int} (h : Rg n) : ∃ s, Ev (fun k => spec_l7Dec.f k n) s ∧ s.size ≤ 19 :=
  dec_m 18 n (by decide) (by
    have e : (10 : Int) ^ (18 + 1) = 10000000000000000000 := by decide
    unfold Rg at h
    omega) h
theorem many_f (m : Nat) (c : Int) (x : ByteArray) (h : c = (m : Int)) (hm : m ≤ 100000) (hx : x.size * m ≤ 1000000) : ∃ r, Ev (fun k => spec_l1Many.f k x c) r ∧ r.size ≤ x.size * m := by
  have o0 : (⟨#[]⟩ : ByteArray).size = 0 := rfl
  obtain ⟨r, hr, hz⟩ := many_ev m x ⟨#[]⟩ hm (by rw [o0]; omega)
  rw [o0] at hz
  subst h
  exact ⟨r, by unfold spec_l1Many.f; exact hr, by omega⟩
end Go.Proofs.YtjelgpmhbaiipaaGreatDoor.Q
end
