/- FnExactProbeIndexOf: program and reference give one index at every argument, and the index owns its memory. No condition. -/
import Derived.Test.YtgklmafdbgnohaaFPAd4
import Derived.Test.YtgklmafdbgnohaaFP14
import Derived.Test.YtgklmafdbgnohaaFR9
import Derived.Test.YtgklmafdbgnohaaFG12
section
namespace Go.Proofs.Ytgklmafdbgnohaa.Q
open Go.RowKit Go.Proofs.Ytgklmafdbgnohaa.PA Go.Proofs.YtgklmafdbgnohaaW.PrintWords Go.Proofs.YtgklmafdbgnohaaW.PrintLast Go.Proofs.YtgklmafdbgnohaaW.PrintMore
set_option linter.unusedVariables false
set_option linter.unusedSimpArgs false
section
variable {α β : Type} {r : α}
theorem Ev.pos {c : Prop} [Decidable c] {A B : Nat → Option α} (h : c) (e : Ev A r) : Ev (fun k => if c then A k else B k) r := Ev.congr (fun _ => if_pos h) e
theorem Ev.neg {c : Prop} [Decidable c] {A B : Nat → Option α} (h : ¬ c) (e : Ev B r) : Ev (fun k => if c then A k else B k) r := Ev.congr (fun _ => if_neg h) e
theorem Ev.is {a : Option α} (h : a = some r) : Ev (fun _ => a) r := ⟨0, fun _ _ => h⟩
theorem Ev.eq {g : Nat → Option α} {r r' : α} (h : Ev g r) (e : r = r') : Ev g r' := e ▸ h
theorem drop_ind (l : List α) {P : Nat → List α → Prop} (h0 : P l.length []) (h1 : ∀ i (hi : i < l.length), P (i + 1) (l.drop (i + 1)) → P i (l[i] :: l.drop (i + 1))) : ∀ i, i ≤ l.length → P i (l.drop i) := by
 intro i hi
 induction hd : l.length - i generalizing i with
 | zero =>
  obtain rfl : i = l.length := by omega
  rw [List.drop_length]
  exact h0
 | succ d ih =>
  have hlt : i < l.length := by omega
  rw [List.drop_eq_getElem_cons hlt]
  exact h1 i hlt (ih (i + 1) (by omega) (by omega))
end
theorem all_yes {α : Type} {p : α → Bool} {a : α} {l : List α} (h : p a = true) : l.all p = (a :: l).all p := by rw [List.all_cons, h, Bool.true_and]
theorem all_no {α : Type} {p : α → Bool} {a : α} {l : List α} (h : ¬ p a = true) : (false : Bool) = (a :: l).all p := by rw [List.all_cons, Bool.eq_false_iff.2 h, Bool.false_and]
theorem w64 {i : Nat} {n : Nat} (h : i < n) (hn : n ≤ 9223372036854775807) : wrap64 ((i : Int) + 1) = ((i + 1 : Nat) : Int) := by
 unfold wrap64
 omega
theorem wsub {a b : Int} (h0 : 0 ≤ a) (h1 : a ≤ 1048576) (h2 : 0 ≤ b) (h3 : b ≤ 9223372036854775807) : wrap64 (a - b) = a - b := by
 unfold wrap64
 omega

def boxOk (a b c d e f : Int) : Bool := decide (0 ≤ a ∧ a ≤ 15 ∧ 0 ≤ b ∧ b ≤ 15 ∧ 0 ≤ c ∧ c ≤ d ∧ d ≤ 6 ∧ 0 ≤ e ∧ e ≤ f ∧ f ≤ 10000)
def bOk (b : S45) : Bool := boxOk b.f0 b.f1 b.f2 b.f3 b.f4 b.f5
theorem l1In_eq (a b c : Int) : spec_l1In.f a b c = some (decide (b ≤ a ∧ a ≤ c)) := by
 unfold spec_l1In.f
 grind
theorem in_eq (a b c : Int) : impl_in.f a b c = some (decide (b ≤ a ∧ a ≤ c)) := by
 unfold impl_in.f
 grind
theorem spec_box (a b c d e f : Int) : spec_ProbeBoxOk.f a b c d e f = some (boxOk a b c d e f) := by
 simp only [spec_ProbeBoxOk.f, l1In_eq, Option.bind_some, decide_eq_true_eq, boxOk]
 grind
theorem impl_box (a b c d e f : Int) : impl_ProbeBoxOk.f a b c d e f = some (boxOk a b c d e f) := by
 simp only [impl_ProbeBoxOk.f, in_eq, Option.bind_some, decide_eq_true_eq, boxOk]
 grind

def near (a b c d e f a' b' c' d' e' f' : Int) : Int × Bool :=
 if a - a' ≤ 1 ∧ a' - a ≤ 1 ∧ b - b' ≤ 1 ∧ b' - b ≤ 1 ∧ c ≤ d' ∧ c' ≤ d ∧ e ≤ f' ∧ e' ≤ f then (mx e e', true) else (0, false)
def bNear (x y : S45) : Int × Bool := near x.f0 x.f1 x.f2 x.f3 x.f4 x.f5 y.f0 y.f1 y.f2 y.f3 y.f4 y.f5
def ChOk (c : Int) : Prop := (97 ≤ c ∧ c ≤ 122) ∨ (48 ≤ c ∧ c ≤ 57) ∨ c = 45
instance (c : Int) : Decidable (ChOk c) := by unfold ChOk; infer_instance
def nameFrom (s : ByteArray) (i : Nat) : Bool := decide (∀ j, j < s.size → i ≤ j → ChOk (bt s (j : Int)))
def nameOk (s : ByteArray) : Bool := decide (1 ≤ s.size ∧ s.size ≤ 8) && nameFrom s 0
def tubeOk (s : ByteArray) (l : List S45) : Bool := nameOk s && decide (l.length ≤ 40) && l.all bOk
theorem nameFrom_end (s : ByteArray) {i : Nat} (h : s.size ≤ i) : nameFrom s i = true := by
 simp only [nameFrom, decide_eq_true_eq]
 intro j h1 h2
 omega
theorem nameFrom_yes {s : ByteArray} {i : Nat} (hc : ChOk (bt s (i : Int))) : nameFrom s i = nameFrom s (i + 1) := by
 rw [Bool.eq_iff_iff]
 simp only [nameFrom, decide_eq_true_eq]
 constructor
 ·intro h j h1 h2
  exact h j h1 (by omega)
 ·intro h j h1 h2
  by_cases e : j = i
  ·subst e; exact hc
  ·exact h j h1 (by omega)
theorem nameFrom_no {s : ByteArray} {i : Nat} (h : i < s.size) (hc : ¬ ChOk (bt s (i : Int))) : nameFrom s i = false := by
 simp only [nameFrom, decide_eq_false_iff_not]
 intro hh
 exact hc (hh i h (Nat.le_refl _))
theorem ch_if {α : Type} {c : Int} {A B : α} : (if c ≥ 97 then (if c ≤ 122 then A else (if c ≥ 48 then (if c ≤ 57 then A else (if c = 45 then A else B)) else (if c = 45 then A else B))) else (if c ≥ 48 then (if c ≤ 57 then A else (if c = 45 then A else B)) else (if c = 45 then A else B))) = if ChOk c then A else B := by
 unfold ChOk
 grind
theorem spec_name_l (s : ByteArray) (hs : s.size ≤ 9223372036854775807) (d : Nat) : ∀ i : Nat, i ≤ s.size → s.size - i = d → Ev (fun k => spec_l2NameOk.l0 k s (i : Int)) (nameFrom s i) := by
 induction d with
 | zero =>
  intro i hi hd
  refine Ev.step (f := fun _ => some true) (fun k => ?_) (Ev.is (by rw [nameFrom_end s (by omega)]))
  simp only [spec_l2NameOk.l0]
  rw [if_neg (by omega)]
 | succ d ih =>
  intro i hi hd
  have hlt : i < s.size := by omega
  by_cases hc : ChOk (bt s (i : Int))
  ·refine Ev.step (f := fun k => spec_l2NameOk.l0 k s ((i + 1 : Nat) : Int)) (fun k => ?_) (by rw [nameFrom_yes hc]; exact ih (i + 1) (by omega) (by omega))
   simp only [spec_l2NameOk.l0]
   rw [if_pos (by omega), if_pos (by omega), ch_if, if_pos hc, w64 hlt hs]
  ·refine Ev.step (f := fun _ => some false) (fun k => ?_) (Ev.is (by rw [nameFrom_no hlt hc]))
   simp only [spec_l2NameOk.l0]
   rw [if_pos (by omega), if_pos (by omega), ch_if, if_neg hc]
theorem spec_name (s : ByteArray) : Ev (fun k => spec_l2NameOk.f k s) (nameOk s) := by
 by_cases h : 1 ≤ s.size ∧ s.size ≤ 8
 ·refine Ev.congr (f := fun k => spec_l2NameOk.l0 k s ((0 : Nat) : Int)) (fun k => ?_) (Ev.eq (spec_name_l s (by omega) s.size 0 (by omega) (by omega)) ?_)
  ·simp only [spec_l2NameOk.f, l1In_eq, Option.bind_some, decide_eq_true_eq]
   rw [if_pos (by omega)]
   rfl
  ·simp [nameOk, h]
 ·refine Ev.is ?_ |>.congr (fun k => ?_) (f := fun _ => some (nameOk s))
  ·rfl
  ·simp only [spec_l2NameOk.f, l1In_eq, Option.bind_some, decide_eq_true_eq]
   rw [if_neg (by omega)]
   simp [nameOk, h]
theorem rd26 {l : List S45} {i : Nat} (h : i < l.length) : rd_T45 l (i : Int) = l[i] := by
 unfold rd_T45
 simp [h]
theorem spec_tube_l (s : ByteArray) (l : List S45) (hl : l.length ≤ 9223372036854775807) : ∀ i : Nat, i ≤ l.length → Ev (fun k => spec_ProbeTubeOk.l0 k (i : Int) s l) ((l.drop i).all bOk) :=
 drop_ind l (P := fun i r => Ev (fun k => spec_ProbeTubeOk.l0 k (i : Int) s l) (r.all bOk))
  (Ev.step (f := fun _ => some true) (fun k => by simp only [spec_ProbeTubeOk.l0]; rw [if_neg (by omega)]) (Ev.is rfl))
  (fun i hi ih => by
   by_cases hb : bOk l[i] = true
   ·refine Ev.step (f := fun k => spec_ProbeTubeOk.l0 k ((i + 1 : Nat) : Int) s l) (fun k => ?_) (Ev.eq ih (all_yes hb))
    simp only [spec_ProbeTubeOk.l0]
    rw [if_pos (by omega), if_pos (by omega), rd26 hi, spec_box, show boxOk l[i].f0 l[i].f1 l[i].f2 l[i].f3 l[i].f4 l[i].f5 = true from hb]
    simp only [Option.bind_some, if_true]
    rw [w64 hi hl]
   ·refine Ev.step (f := fun _ => some false) (fun k => ?_) (Ev.is (congrArg some (all_no hb)))
    simp only [spec_ProbeTubeOk.l0]
    rw [if_pos (by omega), if_pos (by omega), rd26 hi, spec_box, show boxOk l[i].f0 l[i].f1 l[i].f2 l[i].f3 l[i].f4 l[i].f5 = false from Bool.eq_false_iff.2 hb]
    simp)
theorem spec_tube (s : ByteArray) (l : List S45) : Ev (fun k => spec_ProbeTubeOk.f k s l) (tubeOk s l) := by
 unfold spec_ProbeTubeOk.f
 refine Ev.bind (spec_name s) ?_
 by_cases hn : nameOk s = true
 ·refine Ev.pos hn ?_
  by_cases hl : l.length ≤ 40
  ·refine Ev.step (f := fun k => spec_ProbeTubeOk.l0 k ((0 : Nat) : Int) s l) (fun k => ?_) (Ev.eq (spec_tube_l s l (by omega) 0 (by omega)) (by simp [tubeOk, hn, hl]))
   simp only [spec_ProbeTubeOk.j0]
   rw [if_neg (by simp; omega)]
   rfl
  ·refine Ev.step (f := fun _ => some false) (fun k => ?_) (Ev.is (by simp [tubeOk, hl]))
   simp only [spec_ProbeTubeOk.j0]
   rw [if_pos (by simp; omega)]
 ·refine Ev.neg hn (Ev.step (f := fun _ => some false) (fun k => ?_) (Ev.is (by simp [tubeOk, hn])))
  simp [spec_ProbeTubeOk.j0]
theorem impl_tube_l1 (l : List S45) (hl : l.length ≤ 9223372036854775807) : ∀ i : Nat, i ≤ l.length → Ev (fun k => impl_ProbeTubeOk.l1 k l (l.length : Int) (i : Int)) ((l.drop i).all bOk) :=
 drop_ind l (P := fun i r => Ev (fun k => impl_ProbeTubeOk.l1 k l (l.length : Int) (i : Int)) (r.all bOk))
  (Ev.step (f := fun _ => some true) (fun k => by simp only [impl_ProbeTubeOk.l1]; rw [if_neg (by omega)]) (Ev.is rfl))
  (fun i hi ih => by
   by_cases hb : bOk l[i] = true
   ·refine Ev.step (f := fun k => impl_ProbeTubeOk.l1 k l (l.length : Int) ((i + 1 : Nat) : Int)) (fun k => ?_) (Ev.eq ih (all_yes hb))
    simp only [impl_ProbeTubeOk.l1]
    rw [if_pos (by omega), if_pos (by omega), if_pos (by omega), rd26 hi, impl_box, show boxOk l[i].f0 l[i].f1 l[i].f2 l[i].f3 l[i].f4 l[i].f5 = true from hb]
    simp only [Option.bind_some, if_true]
    rw [w64 hi hl]
   ·refine Ev.step (f := fun _ => some false) (fun k => ?_) (Ev.is (congrArg some (all_no hb)))
    simp only [impl_ProbeTubeOk.l1]
    rw [if_pos (by omega), if_pos (by omega), if_pos (by omega), rd26 hi, impl_box, show boxOk l[i].f0 l[i].f1 l[i].f2 l[i].f3 l[i].f4 l[i].f5 = false from Bool.eq_false_iff.2 hb]
    simp)
theorem impl_tube_l0 (s : ByteArray) (l : List S45) (hs : s.size ≤ 9223372036854775807) (hl : l.length ≤ 9223372036854775807) (d : Nat) : ∀ i : Nat, i ≤ s.size → s.size - i = d → Ev (fun k => impl_ProbeTubeOk.l0 k (i : Int) s l) (nameFrom s i && l.all bOk) := by
 induction d with
 | zero =>
  intro i hi hd
  refine Ev.step (f := fun k => impl_ProbeTubeOk.l1 k l (l.length : Int) ((0 : Nat) : Int)) (fun k => ?_) (Ev.eq (impl_tube_l1 l hl 0 (by omega)) (by rw [nameFrom_end s (by omega)]; simp))
  simp only [impl_ProbeTubeOk.l0]
  rw [if_neg (by omega)]
  rfl
 | succ d ih =>
  intro i hi hd
  have hlt : i < s.size := by omega
  by_cases hc : ChOk (bt s (i : Int))
  ·refine Ev.step (f := fun k => impl_ProbeTubeOk.l0 k ((i + 1 : Nat) : Int) s l) (fun k => ?_) (by rw [nameFrom_yes hc]; exact ih (i + 1) (by omega) (by omega))
   simp only [impl_ProbeTubeOk.l0]
   rw [if_pos (by omega), if_pos (by omega), ch_if, if_pos hc, w64 hlt hs]
  ·refine Ev.step (f := fun _ => some false) (fun k => ?_) (Ev.is (by rw [nameFrom_no hlt hc]; rfl))
   simp only [impl_ProbeTubeOk.l0]
   rw [if_pos (by omega), if_pos (by omega), ch_if, if_neg hc]
theorem impl_tube (s : ByteArray) (l : List S45) : Ev (fun k => impl_ProbeTubeOk.f k s l) (tubeOk s l) := by
 unfold impl_ProbeTubeOk.f
 simp only [in_eq, Option.bind_some, decide_eq_true_eq]
 by_cases hn : 1 ≤ s.size ∧ s.size ≤ 8
 ·refine Ev.pos (by omega) ?_
  by_cases hl : l.length ≤ 40
  ·refine Ev.step (f := fun k => impl_ProbeTubeOk.l0 k ((0 : Nat) : Int) s l) (fun k => ?_) (Ev.eq (impl_tube_l0 s l (by omega) (by omega) s.size 0 (by omega) (by omega)) (by simp [tubeOk, nameOk, hn, hl]))
   simp only [impl_ProbeTubeOk.j0]
   rw [if_neg (by simp; omega)]
   rfl
  ·refine Ev.step (f := fun _ => some false) (fun k => ?_) (Ev.is (by simp [tubeOk, hl]))
   simp only [impl_ProbeTubeOk.j0]
   rw [if_pos (by simp; omega)]
 ·refine Ev.neg (by omega) (Ev.step (f := fun _ => some false) (fun k => ?_) (Ev.is (by simp [tubeOk, nameOk, hn])))
  simp [impl_ProbeTubeOk.j0]
def cv (x : S87) : S45 := ⟨x.f0, x.f1, x.f2, x.f3, x.f4, x.f5⟩
def cvT (x : S38) : S42 := ⟨x.f0, x.f1.map cv⟩
theorem to_boxes_l (l : List S87) (hl : l.length ≤ 5864062014805) : ∀ i : Nat, i ≤ l.length → Ev (fun k => laws_toProbeBoxS.l0 k l ((l.take i).map cv ++ List.replicate (l.length - i) z45) (i : Int)) (l.map cv) :=
  drop_ind l (P := fun i _ => Ev (fun k => laws_toProbeBoxS.l0 k l ((l.take i).map cv ++ List.replicate (l.length - i) z45) (i : Int)) (l.map cv))
    (Ev.step (f := fun _ => some (l.map cv)) (fun k => by simp only [laws_toProbeBoxS.l0]; rw [if_neg (by omega)]; simp) (Ev.is rfl))
    (fun i hi ih => by
      refine Ev.step (f := fun k => laws_toProbeBoxS.l0 k l ((l.take (i + 1)).map cv ++ List.replicate (l.length - (i + 1)) z45) ((i + 1 : Nat) : Int)) (fun k => ?_) ih
      have hr : rd_T87 l (i : Int) = l[i] := by unfold rd_T87; simp [hi]
      simp only [laws_toProbeBoxS.l0]
      rw [if_pos (by omega), if_pos (by omega), hr]
      simp only [laws_toProbeBox.f, Option.bind_some]
      rw [if_pos (by simp; omega), w64 hi (by omega)]
      congr 1
      have e : l.length - i = (l.length - (i + 1)) + 1 := by omega
      rw [e, List.replicate_succ, List.take_succ_eq_append_getElem hi, List.map_append, List.set_append_right _ _ (by simp; omega)]
      have e2 : (i : Int).toNat - ((l.take i).map cv).length = 0 := by simp; omega
      rw [e2, List.set_cons_zero, List.append_assoc]
      rfl)
theorem to_boxes (l : List S87) (hl : l.length ≤ 1048576) : Ev (fun k => laws_toProbeBoxS.f k l) (l.map cv) := by
  refine Ev.congr (f := fun k => laws_toProbeBoxS.l0 k l ((l.take 0).map cv ++ List.replicate (l.length - 0) z45) ((0 : Nat) : Int)) (fun k => ?_) (to_boxes_l l (by omega) 0 (by omega))
  simp only [laws_toProbeBoxS.f]
  rw [if_pos (by omega), if_pos (by omega)]
  simp
theorem to_tube (s : ByteArray) (l : List S87) (hl : l.length ≤ 1048576) : Ev (fun k => laws_toProbeTube.f k s l) (s, l.map cv) := by
  unfold laws_toProbeTube.f
  exact Ev.bind (to_boxes l hl) (Ev.now _)
theorem rd34 {l : List S38} {i : Nat} (h : i < l.length) : rd_T38 l (i : Int) = l[i] := by
  unfold rd_T38
  simp [h]
theorem rd39 {l : List S42} {i : Nat} (h : i < l.length) : rd_T42 l (i : Int) = l[i] := by
  unfold rd_T42
  simp [h]
theorem to_tubes_l (l : List S38) (hl : l.length ≤ 1048576) (hb : ∀ x ∈ l, x.f1.length ≤ 1048576) : ∀ i : Nat, i ≤ l.length → Ev (fun k => laws_toProbeTubeS.l0 k l ((l.take i).map cvT ++ List.replicate (l.length - i) z42) (i : Int)) (l.map cvT) :=
  drop_ind l (P := fun i _ => Ev (fun k => laws_toProbeTubeS.l0 k l ((l.take i).map cvT ++ List.replicate (l.length - i) z42) (i : Int)) (l.map cvT))
    (Ev.step (f := fun _ => some (l.map cvT)) (fun k => by simp only [laws_toProbeTubeS.l0]; rw [if_neg (by omega)]; simp) (Ev.is rfl))
    (fun i hi ih => by
      refine Ev.step (f := fun k => (laws_toProbeTube.f k l[i].f0 l[i].f1).bind fun p => laws_toProbeTubeS.l0 k l (((l.take i).map cvT ++ List.replicate (l.length - i) z42).set i ⟨p.1, p.2⟩) ((i + 1 : Nat) : Int)) (fun k => ?_) (Ev.bind (to_tube _ _ (hb _ (List.getElem_mem hi))) (Ev.congr (fun k => ?_) ih))
      · simp only [laws_toProbeTubeS.l0]
        rw [if_pos (by omega), if_pos (by omega), rd34 hi]
        congr 1
        funext p
        rw [if_pos (by simp; omega), w64 hi (by omega)]
        rfl
      · congr 1
        have e : l.length - i = (l.length - (i + 1)) + 1 := by omega
        rw [e, List.replicate_succ, List.take_succ_eq_append_getElem hi, List.map_append, List.set_append_right _ _ (by simp; omega)]
        have e2 : i - ((l.take i).map cvT).length = 0 := by simp; omega
        rw [e2, List.set_cons_zero, List.append_assoc]
        rfl)
theorem to_tubes (l : List S38) (hl : l.length ≤ 1048576) (hb : ∀ x ∈ l, x.f1.length ≤ 1048576) : Ev (fun k => laws_toProbeTubeS.f k l) (l.map cvT) := by
  refine Ev.congr (f := fun k => laws_toProbeTubeS.l0 k l ((l.take 0).map cvT ++ List.replicate (l.length - 0) z42) ((0 : Nat) : Int)) (fun k => ?_) (to_tubes_l l hl hb 0 (by omega))
  simp only [laws_toProbeTubeS.f]
  rw [if_pos (by omega), if_pos (by omega)]
  simp
theorem eq_box (x : S45) : laws_eqProbeBox.f x.f0 x.f1 x.f2 x.f3 x.f4 x.f5 x.f0 x.f1 x.f2 x.f3 x.f4 x.f5 = some true := by simp [laws_eqProbeBox.f]
theorem eq_boxes_l (l : List S45) (hl : l.length ≤ 9223372036854775807) : ∀ i : Nat, i ≤ l.length → Ev (fun k => laws_eqProbeBoxS.l0 k l l (i : Int)) true :=
  drop_ind l (P := fun i _ => Ev (fun k => laws_eqProbeBoxS.l0 k l l (i : Int)) true)
    (Ev.step (f := fun _ => some true) (fun k => by simp only [laws_eqProbeBoxS.l0]; rw [if_neg (by omega)]) (Ev.is rfl))
    (fun i hi ih => by
      refine Ev.step (f := fun k => laws_eqProbeBoxS.l0 k l l ((i + 1 : Nat) : Int)) (fun k => ?_) ih
      simp only [laws_eqProbeBoxS.l0]
      rw [if_pos (by omega), if_pos (by omega), if_pos (by omega), rd26 hi, eq_box, w64 hi hl]
      simp)
theorem eq_boxes (l : List S45) (hl : l.length ≤ 9223372036854775807) : Ev (fun k => laws_eqProbeBoxS.f k l l) true := by
  unfold laws_eqProbeBoxS.f
  exact Ev.pos rfl (eq_boxes_l l hl 0 (by omega))
theorem eq_tube (s : ByteArray) (l : List S45) (hl : l.length ≤ 9223372036854775807) : Ev (fun k => laws_eqProbeTube.f k s l s l) true := by
  unfold laws_eqProbeTube.f
  exact Ev.pos rfl (Ev.bind (eq_boxes l hl) (Ev.pos rfl (Ev.now true)))
theorem eq_tubes_l (l : List S42) (hl : l.length ≤ 9223372036854775807) (hb : ∀ x ∈ l, x.f1.length ≤ 9223372036854775807) : ∀ i : Nat, i ≤ l.length → Ev (fun k => laws_eqProbeTubeS.l0 k l l (i : Int)) true :=
  drop_ind l (P := fun i _ => Ev (fun k => laws_eqProbeTubeS.l0 k l l (i : Int)) true)
    (Ev.step (f := fun _ => some true) (fun k => by simp only [laws_eqProbeTubeS.l0]; rw [if_neg (by omega)]) (Ev.is rfl))
    (fun i hi ih => by
      refine Ev.step (f := fun k => (laws_eqProbeTube.f k l[i].f0 l[i].f1 l[i].f0 l[i].f1).bind fun t => if t = true then laws_eqProbeTubeS.l0 k l l ((i + 1 : Nat) : Int) else some false) (fun k => ?_) (Ev.bind (eq_tube _ _ (hb _ (List.getElem_mem hi))) (Ev.pos rfl ih))
      simp only [laws_eqProbeTubeS.l0]
      rw [if_pos (by omega), if_pos (by omega), if_pos (by omega), rd39 hi, w64 hi hl])
theorem eq_tubes (l : List S42) (hl : l.length ≤ 9223372036854775807) (hb : ∀ x ∈ l, x.f1.length ≤ 9223372036854775807) : Ev (fun k => laws_eqProbeTubeS.f k l l) true := by
  unfold laws_eqProbeTubeS.f
  exact Ev.pos rfl (eq_tubes_l l hl hb 0 (by omega))
theorem sz_boxes {l : List S87} {n : Int} (h0 : 0 ≤ n) (h1 : n ≤ 1048576) (hl : l.length ≤ maxLen) : (laws_szProbeBoxS.f l n = some (-1) ∧ n < l.length) ∨ (laws_szProbeBoxS.f l n = some (n - l.length) ∧ 0 ≤ n - l.length) := by
  unfold maxLen at hl
  unfold laws_szProbeBoxS.f
  rw [wsub h0 h1 (by omega) (by omega)]
  by_cases h : n - (l.length : Int) < 0
  · exact .inl ⟨by rw [if_pos h], by omega⟩
  · exact .inr ⟨by rw [if_neg h], by omega⟩
theorem sz_tube {s : ByteArray} {l : List S87} {n : Int} (h0 : 0 ≤ n) (h1 : n ≤ 1048576) (hs : s.size ≤ maxLen) (hl : l.length ≤ maxLen) : laws_szProbeTube.f s l n = some (-1) ∨ (laws_szProbeTube.f s l n = some (n - s.size - l.length) ∧ 0 ≤ n - s.size - l.length) := by
  unfold maxLen at hs
  unfold laws_szProbeTube.f
  rw [wsub h0 h1 (by omega) (by omega)]
  by_cases h : n - (s.size : Int) < 0
  · exact .inl (by rw [if_pos h])
  · rw [if_neg h]
    rcases sz_boxes (l := l) (n := n - (s.size : Int)) (by omega) (by omega) hl with ⟨h2, _⟩ | ⟨h2, h3⟩
    · rw [h2]; exact .inl rfl
    · rw [h2]
      refine .inr ⟨?_, h3⟩
      simp only [Option.bind_some]
      rw [if_neg (by omega)]
theorem sz_tubes_l (l : List S38) (hl : l.length ≤ 9223372036854775807) (hg : ∀ x ∈ l, g_tube x) : ∀ i : Nat, i ≤ l.length → ∀ n : Int, 0 ≤ n → n ≤ 1048576 → ∃ m : Int, Ev (fun k => laws_szProbeTubeS.l0 k l n (i : Int)) m ∧ (m = -1 ∨ (0 ≤ m ∧ m ≤ n ∧ ∀ x ∈ l.drop i, x.f1.length ≤ 1048576 ∧ x.f0.size ≤ 1048576)) :=
  drop_ind l (P := fun i r => ∀ n : Int, 0 ≤ n → n ≤ 1048576 → ∃ m : Int, Ev (fun k => laws_szProbeTubeS.l0 k l n (i : Int)) m ∧ (m = -1 ∨ (0 ≤ m ∧ m ≤ n ∧ ∀ x ∈ r, x.f1.length ≤ 1048576 ∧ x.f0.size ≤ 1048576)))
    (fun n h0 h1 => ⟨n, Ev.step (f := fun _ => some n) (fun k => by simp only [laws_szProbeTubeS.l0]; rw [if_neg (by omega)]) (Ev.is rfl), .inr ⟨h0, Int.le_refl _, by simp⟩⟩)
    (fun i hi ih n h0 h1 => by
      have hx := hg _ (List.getElem_mem hi)
      rcases sz_tube (s := l[i].f0) (l := l[i].f1) h0 h1 hx.1 hx.2.1 with h2 | ⟨h2, h3⟩
      · refine ⟨-1, Ev.step (f := fun _ => some (-1)) (fun k => ?_) (Ev.is rfl), .inl rfl⟩
        simp only [laws_szProbeTubeS.l0]
        rw [if_pos (by omega), if_pos (by omega), rd34 hi, h2]
        rfl
      · obtain ⟨m, hm, hr⟩ := ih _ h3 (by omega)
        refine ⟨m, Ev.step (f := fun k => laws_szProbeTubeS.l0 k l (n - l[i].f0.size - l[i].f1.length) ((i + 1 : Nat) : Int)) (fun k => ?_) hm, hr.imp id (fun ⟨a, b, c⟩ => ⟨a, by omega, fun x hx => ?_⟩)⟩
        · simp only [laws_szProbeTubeS.l0]
          rw [if_pos (by omega), if_pos (by omega), rd34 hi, h2, w64 hi hl]
          simp only [Option.bind_some]
          rw [if_neg (by omega)]
        · rcases List.mem_cons.1 hx with rfl | hx
          · constructor <;> omega
          · exact c x hx)
theorem sz_tubes (l : List S38) (hg : g_tubes l) : ∃ m : Int, Ev (fun k => laws_szProbeTubeS.f k l 1048576) m ∧ (m = -1 ∨ (0 ≤ m ∧ m ≤ 1048576 ∧ l.length ≤ 1048576 ∧ ∀ x ∈ l, x.f1.length ≤ 1048576 ∧ x.f0.size ≤ 1048576)) := by
  have hl := hg.1
  unfold maxLen at hl
  have hw : wrap64 (1048576 - (l.length : Int)) = 1048576 - (l.length : Int) := wsub (by omega) (by omega) (by omega) (by omega)
  by_cases h : 1048576 - (l.length : Int) < 0
  · refine ⟨-1, ⟨0, fun k _ => ?_⟩, .inl rfl⟩
    simp only [laws_szProbeTubeS.f]
    rw [hw, if_pos h]
  · obtain ⟨m, hm, hr⟩ := sz_tubes_l l (by omega) hg.2 0 (by omega) (1048576 - (l.length : Int)) (by omega) (by omega)
    refine ⟨m, Ev.congr (fun k => ?_) hm, hr.imp id (fun ⟨a, b, c⟩ => ⟨a, by omega, by omega, by simpa using c⟩)⟩
    simp only [laws_szProbeTubeS.f]
    rw [hw, if_neg h]
    rfl

def lt (s t : ByteArray) : Bool := Op.bytesLess s.toList t.toList
def skyFrom : Option ByteArray → List S42 → Bool
  | _, [] => true
  | p, t :: r => tubeOk t.f0 t.f1 && (match p with | none => true | some n => lt n t.f0) && skyFrom (some t.f0) r
def skyOk (l : List S42) : Bool := decide (l.length ≤ 24) && skyFrom none l
def ahead (l : List S42) (i : Nat) : Option ByteArray := if i = 0 then none else some (rd_T42 l ((i : Int) - 1)).f0
theorem ahead_succ {l : List S42} {i : Nat} (h : i < l.length) : ahead l (i + 1) = some l[i].f0 := by
  unfold ahead
  rw [if_neg (by omega), show ((i + 1 : Nat) : Int) - 1 = (i : Int) by omega, rd39 h]
theorem wpred {i n : Nat} (h : i < n) (hn : n ≤ 9223372036854775807) : wrap64 ((i : Int) - 1) = (i : Int) - 1 := by
  unfold wrap64
  omega
theorem spec_sky_l (l : List S42) (hl : l.length ≤ 24) : ∀ i : Nat, i ≤ l.length → Ev (fun k => spec_ProbeSkyOk.l0 k l (i : Int)) (skyFrom (ahead l i) (l.drop i)) :=
  drop_ind l (P := fun i r => Ev (fun k => spec_ProbeSkyOk.l0 k l (i : Int)) (skyFrom (ahead l i) r))
    (Ev.step (f := fun _ => some true) (fun k => by simp only [spec_ProbeSkyOk.l0]; rw [if_neg (by omega)]) (Ev.is rfl))
    (fun i hi ih => by
      refine Ev.step (f := fun k => (spec_ProbeTubeOk.f k l[i].f0 l[i].f1).bind fun t => if t = true then (if (i : Int) > 0 then (if lt (rd_T42 l ((i : Int) - 1)).f0 l[i].f0 = true then spec_ProbeSkyOk.l0 k l ((i + 1 : Nat) : Int) else some false) else spec_ProbeSkyOk.l0 k l ((i + 1 : Nat) : Int)) else some false) (fun k => ?_) ?_
      · simp only [spec_ProbeSkyOk.l0]
        rw [if_pos (by omega), if_pos (by omega), rd39 hi, w64 hi (by omega), wpred hi (by omega)]
        congr 1
        funext t
        by_cases h0 : (i : Int) > 0
        · rw [if_pos h0, if_pos h0, if_pos (show 0 ≤ (i : Int) - 1 by omega), if_pos (show (i : Int) - 1 < (l.length : Int) by omega)]
          rfl
        · rw [if_neg h0, if_neg h0]
      · refine Ev.bind (spec_tube l[i].f0 l[i].f1) ?_
        rw [ahead_succ hi] at ih
        by_cases ht : tubeOk l[i].f0 l[i].f1 = true
        · refine Ev.pos ht ?_
          by_cases h0 : (i : Int) > 0
          · refine Ev.pos h0 ?_
            have ha : ahead l i = some (rd_T42 l ((i : Int) - 1)).f0 := by unfold ahead; rw [if_neg (by omega)]
            by_cases hn : lt (rd_T42 l ((i : Int) - 1)).f0 l[i].f0 = true
            · exact Ev.pos hn (Ev.eq ih (by rw [ha]; simp only [skyFrom, ht, hn, Bool.true_and]))
            · exact Ev.neg hn (Ev.is (by rw [ha]; simp only [skyFrom, ht, hn, Bool.true_and, Bool.false_and]))
          · refine Ev.neg h0 (Ev.eq ih ?_)
            have ha : ahead l i = none := by unfold ahead; rw [if_pos (by omega)]
            rw [ha]
            simp only [skyFrom, ht, Bool.true_and]
        · exact Ev.neg ht (Ev.is (by simp only [skyFrom, ht, Bool.false_and])))
theorem spec_sky (l : List S42) : Ev (fun k => spec_ProbeSkyOk.f k l) (skyOk l) := by
  unfold spec_ProbeSkyOk.f
  by_cases h : l.length ≤ 24
  · exact Ev.neg (by omega) (Ev.eq (spec_sky_l l h 0 (by omega)) (by simp [skyOk, h, ahead]))
  · exact Ev.pos (by omega) (Ev.is (by simp [skyOk, h]))
theorem impl_sky_l (l : List S42) (hl : l.length ≤ 24) : ∀ i : Nat, i ≤ l.length → Ev (fun k => impl_ProbeSkyOk.l0 k l l (l.length : Int) (i : Int)) (skyFrom (ahead l i) (l.drop i)) :=
  drop_ind l (P := fun i r => Ev (fun k => impl_ProbeSkyOk.l0 k l l (l.length : Int) (i : Int)) (skyFrom (ahead l i) r))
    (Ev.step (f := fun _ => some true) (fun k => by simp only [impl_ProbeSkyOk.l0]; rw [if_neg (by omega)]) (Ev.is rfl))
    (fun i hi ih => by
      refine Ev.step (f := fun k => (impl_ProbeTubeOk.f k l[i].f0 l[i].f1).bind fun t => if t = true then (if (i : Int) > 0 then (if lt (rd_T42 l ((i : Int) - 1)).f0 l[i].f0 = true then impl_ProbeSkyOk.l0 k l l (l.length : Int) ((i + 1 : Nat) : Int) else some false) else impl_ProbeSkyOk.l0 k l l (l.length : Int) ((i + 1 : Nat) : Int)) else some false) (fun k => ?_) ?_
      · simp only [impl_ProbeSkyOk.l0]
        rw [if_pos (by omega), if_pos (by omega), if_pos (by omega), rd39 hi, w64 hi (by omega), wpred hi (by omega)]
        congr 1
        funext t
        by_cases h0 : (i : Int) > 0
        · rw [if_pos h0, if_pos h0, if_pos (show 0 ≤ (i : Int) - 1 by omega), if_pos (show (i : Int) - 1 < (l.length : Int) by omega)]
          rfl
        · rw [if_neg h0, if_neg h0]
      · refine Ev.bind (impl_tube l[i].f0 l[i].f1) ?_
        rw [ahead_succ hi] at ih
        by_cases ht : tubeOk l[i].f0 l[i].f1 = true
        · refine Ev.pos ht ?_
          by_cases h0 : (i : Int) > 0
          · refine Ev.pos h0 ?_
            have ha : ahead l i = some (rd_T42 l ((i : Int) - 1)).f0 := by unfold ahead; rw [if_neg (by omega)]
            by_cases hn : lt (rd_T42 l ((i : Int) - 1)).f0 l[i].f0 = true
            · exact Ev.pos hn (Ev.eq ih (by rw [ha]; simp only [skyFrom, ht, hn, Bool.true_and]))
            · exact Ev.neg hn (Ev.is (by rw [ha]; simp only [skyFrom, ht, hn, Bool.true_and, Bool.false_and]))
          · refine Ev.neg h0 (Ev.eq ih ?_)
            have ha : ahead l i = none := by unfold ahead; rw [if_pos (by omega)]
            rw [ha]
            simp only [skyFrom, ht, Bool.true_and]
        · exact Ev.neg ht (Ev.is (by simp only [skyFrom, ht, Bool.false_and])))
theorem impl_sky (l : List S42) : Ev (fun k => impl_ProbeSkyOk.f k l) (skyOk l) := by
  unfold impl_ProbeSkyOk.f
  by_cases h : l.length ≤ 24
  · exact Ev.neg (by omega) (Ev.eq (impl_sky_l l h 0 (by omega)) (by simp [skyOk, h, ahead]))
  · exact Ev.pos (by omega) (Ev.is (by simp [skyOk, h]))
abbrev St := Option (Int × Int × Int)
abbrev Cl := ByteArray × ByteArray × Int × Int × Int × Bool
def sA (s : ByteArray) : St → ByteArray | none => ⟨#[]⟩ | some _ => s
def sT : St → Int | none => 0 | some t => t.1
def sI : St → Int | none => 0 | some t => t.2.1
def sJ : St → Int | none => 0 | some t => t.2.2
def enc (s s' : ByteArray) (st : St) : Cl := (sA s st, sA s' st, sT st, sI st, sJ st, st.isSome)
def better (st : St) (x y : S45) (i j : Int) : St := if (bNear x y).2 = true then (match st with | none => some ((bNear x y).1, i, j) | some t => if (bNear x y).1 < t.1 then some ((bNear x y).1, i, j) else some t) else st
def meetRow (x : S45) (i : Int) : List S45 → Nat → St → St
 | [], _, st => st
 | y :: r, j, st => meetRow x i r (j + 1) (better st x y i j)
def meetAll (l' : List S45) : List S45 → Nat → St → St
 | [], _, st => st
 | x :: r, i, st => meetAll l' r (i + 1) (meetRow x i l' 0 st)
def meetSt (l l' : List S45) : St := meetAll l' l 0 none
def meet (s : ByteArray) (l : List S45) (s' : ByteArray) (l' : List S45) : Cl := if tubeOk s l = true ∧ tubeOk s' l' = true then enc s s' (meetSt l l') else enc s s' none
def cover (b a : S45) : Bool := decide (a.f0 = b.f0 ∧ a.f1 = b.f1 ∧ b.f2 ≤ a.f2 ∧ a.f3 ≤ b.f3 ∧ b.f4 ≤ a.f4 ∧ a.f5 ≤ b.f5)
def smaller (s : ByteArray) (l : List S45) (s' : ByteArray) (l' : List S45) : Bool := tubeOk s l && tubeOk s' l' && l.all fun a => l'.any fun b => cover b a
def cutB (fr : Int) (b : S45) : S45 := ⟨b.f0, b.f1, b.f2, b.f3, mx b.f4 fr, b.f5⟩
def cutL (fr : Int) (l : List S45) : List S45 := (l.filter fun b => decide (fr ≤ b.f5)).map (cutB fr)
def cut (s : ByteArray) (l : List S45) (fr : Int) : ByteArray × List S45 := if tubeOk s l = true then (s, cutL fr l) else (⟨#[]⟩, [])
def markL : List S45 → Int → List S45
  | [], _ => []
  | _ :: r, k => ⟨k, k + 1, k + 1 + 1, k + 1 + 1 + 1, k + 1 + 1 + 1 + 1, k + 1 + 1 + 1 + 1 + 1⟩ :: markL r (k + 6)
theorem w1 {k : Int} (h0 : 0 ≤ k) (h : k ≤ 1000000000000000) : wrap64 (k + 1) = k + 1 := by
  unfold wrap64
  omega
theorem rd_set {l : List S45} {i : Nat} (h : i < l.length) (v : S45) : rd_T45 (l.set i v) (i : Int) = v := by
  unfold rd_T45
  simp [h]
theorem mark_l : ∀ (r : List S45) (pre : List S45) (K : Int), 0 ≤ K → K + 6 * r.length ≤ 100000000000000 → pre.length + r.length ≤ 100000000 →
    Ev (fun k => laws_markProbeBoxS.l0 k (pre ++ r) K (pre.length : Int)) (K + 6 * r.length, pre ++ markL r K)
  | [], pre, K, _, _, _ => by
    refine Ev.step (f := fun _ => some (K, pre ++ [])) (fun k => ?_) (Ev.is (by simp [markL]))
    simp only [laws_markProbeBoxS.l0]
    rw [if_neg (by simp)]
  | x :: r, pre, K, h0, h1, h2 => by
    simp only [List.length_cons] at h1 h2
    have ih := mark_l r (pre ++ [⟨K, K + 1, K + 1 + 1, K + 1 + 1 + 1, K + 1 + 1 + 1 + 1, K + 1 + 1 + 1 + 1 + 1⟩]) (K + 6) (by omega) (by omega) (by simp; omega)
    refine Ev.step (f := fun k => laws_markProbeBoxS.l0 k ((pre ++ [⟨K, K + 1, K + 1 + 1, K + 1 + 1 + 1, K + 1 + 1 + 1 + 1, K + 1 + 1 + 1 + 1 + 1⟩]) ++ r) (K + 6) (((pre ++ [(⟨K, K + 1, K + 1 + 1, K + 1 + 1 + 1, K + 1 + 1 + 1 + 1, K + 1 + 1 + 1 + 1 + 1⟩ : S45)]).length : Nat) : Int)) (fun k => ?_) (Ev.eq ih ?_)
    · have hp : pre.length < (pre ++ x :: r).length := by simp
      simp only [laws_markProbeBoxS.l0]
      rw [if_pos (by simp; omega), if_pos (by omega)]
      simp only [Option.bind_some, Int.toNat_natCast]
      rw [w1 (k := K) (by omega) (by omega), w1 (k := K + 1) (by omega) (by omega), w1 (k := K + 1 + 1) (by omega) (by omega), w1 (k := K + 1 + 1 + 1) (by omega) (by omega), w1 (k := K + 1 + 1 + 1 + 1) (by omega) (by omega), w1 (k := K + 1 + 1 + 1 + 1 + 1) (by omega) (by omega)]
      simp only [rd_set hp, List.set_set]
      congr 1
      · rw [List.set_append_right _ _ (Nat.le_refl _), Nat.sub_self, List.set_cons_zero, List.append_assoc]
        rfl
      · omega
      · rw [w64 (n := 100000000) (by omega) (by omega)]
        simp
    · simp only [List.length_cons, markL, List.append_assoc, List.cons_append, List.nil_append, Prod.mk.injEq]
      exact ⟨by omega, trivial⟩
theorem mark_boxes (l : List S45) (hl : l.length ≤ 10000000) {K : Int} (h0 : 0 ≤ K) (h1 : K + 6 * l.length ≤ 100000000000000) : Ev (fun k => laws_markProbeBoxS.f k l K) (K + 6 * l.length, markL l K) := by
  unfold laws_markProbeBoxS.f
  exact mark_l l [] K h0 h1 (by simp; omega)
theorem size_one (c : Int) : (strOfNums [c]).size = 1 := rfl
theorem mark_text_l : ∀ (n x : Nat) (s : ByteArray), x ≤ n → n ≤ 1000000000000000 → s.size + n ≤ 1000000000000000000 → ∃ r, Ev (fun k => laws_markText.l0 k (x : Int) s) r := by
  intro n
  induction n with
  | zero =>
    intro x s hx _ hs
    refine ⟨_, Ev.step (f := fun _ => some ((⟨#[109]⟩ : ByteArray) ++ s)) (fun k => ?_) (Ev.is rfl)⟩
    simp only [laws_markText.l0]
    rw [if_neg (by omega), if_pos (by omega)]
  | succ n ih =>
    intro x s hx hn hs
    by_cases h : x = 0
    · subst h
      refine ⟨_, Ev.step (f := fun _ => some ((⟨#[109]⟩ : ByteArray) ++ s)) (fun k => ?_) (Ev.is rfl)⟩
      simp only [laws_markText.l0]
      rw [if_neg (by omega), if_pos (by omega)]
    · have hz : (strOfNums [(wrap64 (48 + (Int.tmod (x : Int) 10))) % 256]).size = 1 := size_one _
      obtain ⟨r, hr⟩ := ih (x / 10) (strOfNums [(wrap64 (48 + (Int.tmod (x : Int) 10))) % 256] ++ s) (by omega) (by omega) (by rw [ByteArray.size_append, hz]; omega)
      refine ⟨r, Ev.step (f := fun k => laws_markText.l0 k ((x / 10 : Nat) : Int) (strOfNums [(wrap64 (48 + (Int.tmod (x : Int) 10))) % 256] ++ s)) (fun k => ?_) hr⟩
      simp only [laws_markText.l0]
      rw [if_pos (by omega)]
      simp only [Option.bind_some]
      rw [if_pos (by rw [hz]; omega)]
      have hd : wrap64 (Int.tdiv (x : Int) 10) = ((x / 10 : Nat) : Int) := by
        rw [Int.tdiv_eq_ediv_of_nonneg (by omega)]
        unfold wrap64
        omega
      rw [hd]
theorem mark_text (K : Int) (h : K ≤ 1000000000000000) : ∃ r, Ev (fun k => laws_markText.f k K) r := by
  unfold laws_markText.f
  by_cases h0 : K ≤ 0
  · exact ⟨_, Ev.pos h0 (Ev.is rfl)⟩
  · obtain ⟨r, hr⟩ := mark_text_l K.toNat K.toNat ⟨#[]⟩ (Nat.le_refl _) (by omega) (by show 0 + K.toNat ≤ _; omega)
    rw [Int.toNat_of_nonneg (by omega)] at hr
    exact ⟨r, Ev.neg h0 hr⟩
noncomputable def mt (K : Int) : ByteArray := if h : K ≤ 1000000000000000 then Classical.choose (mark_text K h) else ⟨#[]⟩
theorem mt_ev {K : Int} (h : K ≤ 1000000000000000) : Ev (fun k => laws_markText.f k K) (mt K) := by
  unfold mt
  rw [dif_pos h]
  exact Classical.choose_spec (mark_text K h)

noncomputable def markT : List S42 → Int → List S42
  | [], _ => []
  | t :: r, K => ⟨mt K, markL t.f1 (K + 1)⟩ :: markT r (K + 1 + 6 * t.f1.length)
def cntT : List S42 → Int
  | [] => 0
  | t :: r => 1 + 6 * t.f1.length + cntT r
theorem cnt_le : ∀ {l : List S42}, (∀ x ∈ l, x.f1.length ≤ 1048576) → 0 ≤ cntT l ∧ cntT l ≤ 6291457 * (l.length : Int)
  | [], _ => by simp [cntT]
  | t :: r, h => by
    have h1 := h t (by simp)
    have h2 := cnt_le (l := r) (fun x hx => h x (by simp [hx]))
    simp only [cntT, List.length_cons]
    omega
theorem rd_set39 {l : List S42} {i : Nat} (h : i < l.length) (v : S42) : rd_T42 (l.set i v) (i : Int) = v := by
  unfold rd_T42
  simp [h]
theorem marks_l : ∀ (r : List S42) (pre : List S42) (K : Int), 0 ≤ K → K + cntT r ≤ 100000000000000 → pre.length + r.length ≤ 100000000 → (∀ x ∈ r, x.f1.length ≤ 1048576) →
    Ev (fun k => laws_markProbeTubeS.l0 k (pre ++ r) K (pre.length : Int)) (K + cntT r, pre ++ markT r K)
  | [], pre, K, _, _, _, _ => by
    refine Ev.step (f := fun _ => some (K, pre ++ [])) (fun k => ?_) (Ev.is (by simp [markT, cntT]))
    simp only [laws_markProbeTubeS.l0]
    rw [if_neg (by simp)]
  | x :: r, pre, K, h0, h1, h2, h3 => by
    have hx := h3 x (by simp)
    have hc := cnt_le (l := r) (fun x hx => h3 x (by simp [hx]))
    simp only [List.length_cons, cntT] at h1 h2
    have ih := marks_l r (pre ++ [⟨mt K, markL x.f1 (K + 1)⟩]) (K + 1 + 6 * x.f1.length) (by omega) (by omega) (by simp; omega) (fun y hy => h3 y (by simp [hy]))
    have hp : pre.length < (pre ++ x :: r).length := by simp
    have hrd : rd_T42 (pre ++ x :: r) (pre.length : Int) = x := by unfold rd_T42; simp
    refine Ev.step (f := fun k => (laws_markText.f k K).bind fun t => (laws_markProbeBoxS.f k x.f1 (K + 1)).bind fun b => laws_markProbeTubeS.l0 k (pre ++ ⟨t, b.2⟩ :: r) b.1 ((pre.length + 1 : Nat) : Int)) (fun k => ?_) (Ev.bind (mt_ev (by omega)) (Ev.bind (mark_boxes x.f1 (by omega) (K := K + 1) (by omega) (by omega)) (Ev.eq (Ev.congr (fun k => ?_) ih) ?_)))
    · simp only [laws_markProbeTubeS.l0]
      rw [if_pos (by simp; omega)]
      congr 1
      funext t
      rw [if_pos (by omega)]
      simp only [Option.bind_some, Int.toNat_natCast, hrd, rd_set39 hp, List.set_set]
      rw [w1 h0 (by omega), w64 (n := 100000000) (by omega) (by omega)]
      congr 1
      funext b
      rw [List.set_append_right _ _ (Nat.le_refl _), Nat.sub_self, List.set_cons_zero]
    · simp
    · simp only [cntT, markT, List.append_assoc, List.cons_append, List.nil_append, Prod.mk.injEq, and_true]
      omega
theorem mark_tubes (l : List S42) (hl : l.length ≤ 1048576) (hb : ∀ x ∈ l, x.f1.length ≤ 1048576) : Ev (fun k => laws_markProbeTubeS.f k l 1) (1 + cntT l, markT l 1) := by
  unfold laws_markProbeTubeS.f
  have := cnt_le hb
  exact marks_l l [] 1 (by omega) (by omega) (by simp; omega) hb
theorem rd101 {l : List S52} {i : Nat} (h : i < l.length) : rd_T52 l (i : Int) = l[i] := by
  unfold rd_T52
  simp [h]
theorem rd105 {l : List S56} {i : Nat} (h : i < l.length) : rd_T56 l (i : Int) = l[i] := by
  unfold rd_T56
  simp [h]
theorem eq_slot (x : S52) : laws_eqProbeSlot.f x.f0 x.f1 x.f2 x.f3 x.f4 x.f5 x.f0 x.f1 x.f2 x.f3 x.f4 x.f5 = some true := by simp [laws_eqProbeSlot.f]
theorem eq_slots_l (l : List S52) (hl : l.length ≤ 9223372036854775807) : ∀ i : Nat, i ≤ l.length → Ev (fun k => laws_eqProbeSlotS.l0 k l l (i : Int)) true :=
  drop_ind l (P := fun i _ => Ev (fun k => laws_eqProbeSlotS.l0 k l l (i : Int)) true)
    (Ev.step (f := fun _ => some true) (fun k => by simp only [laws_eqProbeSlotS.l0]; rw [if_neg (by omega)]) (Ev.is rfl))
    (fun i hi ih => by
      refine Ev.step (f := fun k => laws_eqProbeSlotS.l0 k l l ((i + 1 : Nat) : Int)) (fun k => ?_) ih
      simp only [laws_eqProbeSlotS.l0]
      rw [if_pos (by omega), if_pos (by omega), if_pos (by omega), rd101 hi, eq_slot, w64 hi hl]
      rfl)
theorem eq_slots (l : List S52) (hl : l.length ≤ 9223372036854775807) : Ev (fun k => laws_eqProbeSlotS.f k l l) true := by
  unfold laws_eqProbeSlotS.f
  exact Ev.pos rfl (eq_slots_l l hl 0 (by omega))
theorem eq_cell (x y : Int) (l : List S52) (hl : l.length ≤ 9223372036854775807) : Ev (fun k => laws_eqProbeCell.f k x y l x y l) true := by
  unfold laws_eqProbeCell.f
  exact Ev.pos rfl (Ev.pos rfl (Ev.bind (eq_slots l hl) (Ev.pos rfl (Ev.now true))))
theorem eq_cells_l (l : List S56) (hl : l.length ≤ 9223372036854775807) (hb : ∀ x ∈ l, x.f2.length ≤ 9223372036854775807) : ∀ i : Nat, i ≤ l.length → Ev (fun k => laws_eqProbeCellS.l0 k l l (i : Int)) true :=
  drop_ind l (P := fun i _ => Ev (fun k => laws_eqProbeCellS.l0 k l l (i : Int)) true)
    (Ev.step (f := fun _ => some true) (fun k => by simp only [laws_eqProbeCellS.l0]; rw [if_neg (by omega)]) (Ev.is rfl))
    (fun i hi ih => by
      refine Ev.step (f := fun k => (laws_eqProbeCell.f k l[i].f0 l[i].f1 l[i].f2 l[i].f0 l[i].f1 l[i].f2).bind fun t => if t = true then laws_eqProbeCellS.l0 k l l ((i + 1 : Nat) : Int) else some false) (fun k => ?_) (Ev.bind (eq_cell _ _ _ (hb _ (List.getElem_mem hi))) (Ev.pos rfl ih))
      simp only [laws_eqProbeCellS.l0]
      rw [if_pos (by omega), if_pos (by omega), if_pos (by omega), rd105 hi, w64 hi hl])
theorem eq_index (l : List S56) (hl : l.length ≤ 9223372036854775807) (hb : ∀ x ∈ l, x.f2.length ≤ 9223372036854775807) : Ev (fun k => laws_eqProbeIndex.f k l l) true := by
  unfold laws_eqProbeIndex.f
  refine Ev.bind (r := true) ?_ (Ev.pos rfl (Ev.now true))
  unfold laws_eqProbeCellS.f
  exact Ev.pos rfl (eq_cells_l l hl hb 0 (by omega))
noncomputable def markS : List S52 → Int → List S52
  | [], _ => []
  | _ :: r, K => ⟨K, K + 1, K + 2, K + 3, mt (K + 4), K + 5⟩ :: markS r (K + 6)
theorem wsix {K : Int} (h0 : 0 ≤ K) (h1 : K ≤ 900000000000000) : wrap64 (K + 1) = K + 1 ∧ wrap64 (K + 1 + 1) = K + 2 ∧ wrap64 (K + 2 + 1) = K + 3 ∧ wrap64 (K + 3 + 1) = K + 4 ∧ wrap64 (K + 4 + 1) = K + 5 ∧ wrap64 (K + 5 + 1) = K + 6 :=
  ⟨w1 h0 (by omega), by rw [w1 (by omega) (by omega)]; omega, by rw [w1 (by omega) (by omega)]; omega, by rw [w1 (by omega) (by omega)]; omega, by rw [w1 (by omega) (by omega)]; omega, by rw [w1 (by omega) (by omega)]; omega⟩
theorem mark_s : ∀ (r pre : List S52) (K : Int), 0 ≤ K → K + 6 * r.length ≤ 100000000000000 → pre.length + r.length ≤ 100000000 → Ev (fun k => laws_markProbeSlotS.l0 k (pre ++ r) K (pre.length : Int)) (K + 6 * r.length, pre ++ markS r K)
  | [], pre, K, _, _, _ => by
    refine Ev.step (f := fun _ => some (K, pre ++ [])) (fun k => ?_) (Ev.is (by simp [markS]))
    simp only [laws_markProbeSlotS.l0]
    rw [if_neg (by simp)]
  | x :: r, pre, K, h0, h1, h2 => by
    simp only [List.length_cons] at h1 h2
    obtain ⟨e1, e2, e3, e4, e5, e6⟩ := wsix (K := K) h0 (by omega)
    have ih := mark_s r (pre ++ [⟨K, K + 1, K + 2, K + 3, mt (K + 4), K + 5⟩]) (K + 6) (by omega) (by omega) (by simp; omega)
    have hg : ∀ v : S52, rd_T52 (pre ++ v :: r) (pre.length : Int) = v := fun v => by unfold rd_T52; simp [List.getD]
    have hset : ∀ u v : S52, (pre ++ u :: r).set ((pre.length : Int)).toNat v = pre ++ v :: r := fun u v => by simp
    refine Ev.step (f := fun k => (laws_markText.f k (K + 4)).bind fun t => laws_markProbeSlotS.l0 k (pre ++ ⟨K, K + 1, K + 2, K + 3, t, K + 5⟩ :: r) (K + 6) ((pre.length + 1 : Nat) : Int)) (fun k => ?_) (Ev.bind (mt_ev (by omega)) ?_)
    · simp only [laws_markProbeSlotS.l0]
      rw [if_pos (by simp; omega), if_pos (by omega)]
      simp only [Option.bind_some, e1, e2, e3, e4, e5, e6, hset, hg]
      rw [w64 (n := pre.length + 1) (by omega) (by omega)]
    · refine Ev.eq (Ev.congr (fun k => ?_) ih) (by simp only [List.length_cons, markS, List.append_assoc, List.cons_append, List.nil_append, Prod.mk.injEq, and_true]; omega)
      simp
theorem mark_slots (l : List S52) (hl : l.length ≤ 1048576) {K : Int} (h0 : 0 ≤ K) (h1 : K + 6 * l.length ≤ 100000000000000) : Ev (fun k => laws_markProbeSlotS.f k l K) (K + 6 * l.length, markS l K) := by
  unfold laws_markProbeSlotS.f
  exact mark_s l [] K h0 h1 (by simp; omega)
def cntI : List S56 → Int
  | [] => 0
  | c :: r => 2 + 6 * c.f2.length + cntI r
theorem cntI_le : ∀ {l : List S56}, (∀ c ∈ l, c.f2.length ≤ 1048576) → 0 ≤ cntI l ∧ cntI l ≤ 8000000 * (l.length : Int)
  | [], _ => by simp [cntI]
  | c :: r, h => by
    have h1 := cntI_le (l := r) (fun x hx => h x (by simp [hx]))
    have h2 := h c (by simp)
    simp only [cntI, List.length_cons]
    omega
noncomputable def markI : List S56 → Int → List S56
  | [], _ => []
  | c :: r, K => ⟨K, K + 1, markS c.f2 (K + 2)⟩ :: markI r (K + 2 + 6 * c.f2.length)
theorem mark_c : ∀ (r pre : List S56) (K : Int), 0 ≤ K → K + cntI r ≤ 100000000000000 → pre.length + r.length ≤ 100000000 → (∀ c ∈ r, c.f2.length ≤ 1048576) → Ev (fun k => laws_markProbeCellS.l0 k (pre ++ r) K (pre.length : Int)) (K + cntI r, pre ++ markI r K)
  | [], pre, K, _, _, _, _ => by
    refine Ev.step (f := fun _ => some (K, pre ++ [])) (fun k => ?_) (Ev.is (by simp [markI, cntI]))
    simp only [laws_markProbeCellS.l0]
    rw [if_neg (by simp)]
  | c :: r, pre, K, h0, h1, h2, h3 => by
    have hc := h3 c (by simp)
    have hr := cntI_le (l := r) (fun x hx => h3 x (by simp [hx]))
    simp only [List.length_cons, cntI] at h1 h2
    obtain ⟨e1, e2, _, _, _, _⟩ := wsix (K := K) h0 (by omega)
    have ih := mark_c r (pre ++ [⟨K, K + 1, markS c.f2 (K + 2)⟩]) (K + 2 + 6 * c.f2.length) (by omega) (by omega) (by simp; omega) (fun x hx => h3 x (by simp [hx]))
    have hg : ∀ v : S56, rd_T56 (pre ++ v :: r) (pre.length : Int) = v := fun v => by unfold rd_T56; simp [List.getD]
    have hset : ∀ u v : S56, (pre ++ u :: r).set ((pre.length : Int)).toNat v = pre ++ v :: r := fun u v => by simp
    refine Ev.step (f := fun k => (laws_markProbeSlotS.f k c.f2 (K + 2)).bind fun b => laws_markProbeCellS.l0 k (pre ++ ⟨K, K + 1, b.2⟩ :: r) b.1 ((pre.length + 1 : Nat) : Int)) (fun k => ?_) (Ev.bind (mark_slots c.f2 hc (by omega) (by omega)) ?_)
    · simp only [laws_markProbeCellS.l0]
      rw [if_pos (by simp; omega), if_pos (by omega)]
      simp only [Option.bind_some, e1, e2, hset, hg]
      rw [w64 (n := pre.length + 1) (by omega) (by omega)]
    · refine Ev.eq (Ev.congr (fun k => ?_) ih) (by simp only [cntI, markI, List.append_assoc, List.cons_append, List.nil_append, Prod.mk.injEq, and_true]; omega)
      simp
theorem mark_index (l : List S56) (hl : l.length ≤ 1048576) (hb : ∀ c ∈ l, c.f2.length ≤ 1048576) : Ev (fun k => laws_markProbeIndex.f k l 1) (1 + cntI l, markI l 1) := by
  have h := cntI_le hb
  unfold laws_markProbeIndex.f
  have hf : Ev (fun k => laws_markProbeCellS.f k l 1) (1 + cntI l, markI l 1) := by
    unfold laws_markProbeCellS.f
    exact mark_c l [] 1 (by omega) (by omega) (by simp; omega) hb
  exact Ev.bind hf (Ev.now _)
theorem held_s : ∀ (r pre : List S52) (K : Int), 0 ≤ K → K + 6 * r.length ≤ 100000000000000 → pre.length + r.length ≤ 100000000 → Ev (fun k => laws_heldProbeSlotS.l0 k (pre ++ markS r K) K (pre.length : Int)) (K + 6 * r.length)
  | [], pre, K, _, _, _ => by
    refine Ev.step (f := fun _ => some K) (fun k => ?_) (Ev.is (by simp))
    simp only [laws_heldProbeSlotS.l0, markS, List.append_nil]
    rw [if_neg (by omega)]
  | x :: r, pre, K, h0, h1, h2 => by
    simp only [List.length_cons] at h1 h2
    obtain ⟨e1, e2, e3, e4, e5, e6⟩ := wsix (K := K) h0 (by omega)
    have ih := held_s r (pre ++ [⟨K, K + 1, K + 2, K + 3, mt (K + 4), K + 5⟩]) (K + 6) (by omega) (by omega) (by simp; omega)
    have hg : rd_T52 (pre ++ markS (x :: r) K) (pre.length : Int) = ⟨K, K + 1, K + 2, K + 3, mt (K + 4), K + 5⟩ := by unfold rd_T52; simp [List.getD, markS]
    refine Ev.step (f := fun k => (laws_markText.f k (K + 4)).bind fun t => if (mt (K + 4)).toList = t.toList then laws_heldProbeSlotS.l0 k (pre ++ markS (x :: r) K) (K + 6) ((pre.length + 1 : Nat) : Int) else some (-1)) (fun k => ?_) (Ev.bind (mt_ev (by omega)) (Ev.pos rfl ?_))
    · simp only [laws_heldProbeSlotS.l0]
      rw [if_pos (by simp [markS]; omega), if_pos (by omega), hg]
      simp only [e1, e2, e3, e4, e5, e6, if_true]
      rw [w64 (n := pre.length + 1) (by omega) (by omega)]
    · refine Ev.eq (Ev.congr (fun k => ?_) ih) (by simp only [List.length_cons]; omega)
      simp [markS]
theorem held_slots (l : List S52) (hl : l.length ≤ 1048576) {K : Int} (h0 : 0 ≤ K) (h1 : K + 6 * l.length ≤ 100000000000000) : Ev (fun k => laws_heldProbeSlotS.f k (markS l K) K) (K + 6 * l.length) := by
  unfold laws_heldProbeSlotS.f
  exact held_s l [] K h0 h1 (by simp; omega)
theorem held_c : ∀ (r pre : List S56) (K : Int), 0 ≤ K → K + cntI r ≤ 100000000000000 → pre.length + r.length ≤ 100000000 → (∀ c ∈ r, c.f2.length ≤ 1048576) → Ev (fun k => laws_heldProbeCellS.l0 k (pre ++ markI r K) K (pre.length : Int)) (K + cntI r)
  | [], pre, K, _, _, _, _ => by
    refine Ev.step (f := fun _ => some K) (fun k => ?_) (Ev.is (by simp [cntI]))
    simp only [laws_heldProbeCellS.l0, markI, List.append_nil]
    rw [if_neg (by omega)]
  | c :: r, pre, K, h0, h1, h2, h3 => by
    have hc := h3 c (by simp)
    have hr := cntI_le (l := r) (fun x hx => h3 x (by simp [hx]))
    simp only [List.length_cons, cntI] at h1 h2
    obtain ⟨e1, e2, _, _, _, _⟩ := wsix (K := K) h0 (by omega)
    have ih := held_c r (pre ++ [⟨K, K + 1, markS c.f2 (K + 2)⟩]) (K + 2 + 6 * c.f2.length) (by omega) (by omega) (by simp; omega) (fun x hx => h3 x (by simp [hx]))
    have hg : rd_T56 (pre ++ markI (c :: r) K) (pre.length : Int) = ⟨K, K + 1, markS c.f2 (K + 2)⟩ := by unfold rd_T56; simp [List.getD, markI]
    refine Ev.step (f := fun k => (laws_heldProbeSlotS.f k (markS c.f2 (K + 2)) (K + 2)).bind fun b => if b < 0 then some (-1) else laws_heldProbeCellS.l0 k (pre ++ markI (c :: r) K) b ((pre.length + 1 : Nat) : Int)) (fun k => ?_) (Ev.bind (held_slots c.f2 hc (by omega) (by omega)) (Ev.neg (by omega) ?_))
    · simp only [laws_heldProbeCellS.l0]
      rw [if_pos (by simp [markI]; omega), if_pos (by omega), hg]
      simp only [e1, e2, if_true]
      rw [w64 (n := pre.length + 1) (by omega) (by omega)]
    · refine Ev.eq (Ev.congr (fun k => ?_) ih) (by simp only [cntI]; omega)
      simp [markI]
theorem held_index (l : List S56) (hl : l.length ≤ 1048576) (hb : ∀ c ∈ l, c.f2.length ≤ 1048576) : Ev (fun k => laws_heldProbeIndex.f k (markI l 1) 1) (1 + cntI l) := by
  have h := cntI_le hb
  unfold laws_heldProbeIndex.f
  refine Ev.bind (r := 1 + cntI l) ?_ (Ev.neg (by omega) (Ev.now _))
  unfold laws_heldProbeCellS.f
  exact held_c l [] 1 (by omega) (by omega) (by simp; omega) hb
end Go.Proofs.Ytgklmafdbgnohaa.Q
end
section
namespace Go.Proofs.Ytgklmafdbgnohaa.Q
open Go.RowKit Go.Proofs.Ytgklmafdbgnohaa.PA Go.Proofs.YtgklmafdbgnohaaW.PrintWords Go.Proofs.YtgklmafdbgnohaaW.PrintLast Go.Proofs.YtgklmafdbgnohaaW.PrintMore Go.Proofs.Ytgklmafdbgnohaa.Ik Go.Proofs.Ytgklmafdbgnohaa.Ix Go.Proofs.Ytgklmafdbgnohaa.Iw
set_option linter.unusedVariables false
set_option linter.unusedSimpArgs false
def grp (E : List Ev) (c : Int × Int) : List Sl := (E.filter fun e => decide (e.1 = c)).map Prod.snd
theorem grp_snoc (E : List Ev) (e : Ev) (c : Int × Int) : grp (E ++ [e]) c = if e.1 = c then grp E c ++ [e.2] else grp E c := by
  unfold grp
  by_cases h : e.1 = c <;> simp [h]
theorem grp_none {E : List Ev} {c : Int × Int} (h : c ∉ E.map Prod.fst) : grp E c = [] := by
  unfold grp
  rw [List.filter_eq_nil_iff.2 fun e he => by
    have : e.1 ≠ c := fun e' => h (List.mem_map.2 ⟨e, he, e'⟩)
    simpa using this]
  rfl
theorem grp_nodup {E : List Ev} (h : (E.map fun e => sk e.2).Nodup) (c : Int × Int) : ((grp E c).map sk).Nodup := by
  unfold grp
  rw [List.map_map]
  exact ((List.filter_sublist (p := fun e : Ev => decide (e.1 = c)) (l := E)).map (fun e => sk e.2)).nodup h
theorem find_iff (c : Int × Int) : ∀ (M : MQ) (i : Nat), (Mq.qfind c M i).isSome = true ↔ c ∈ M.map Prod.fst
  | [], i => by simp [Mq.qfind]
  | p :: r, i => by
    unfold Mq.qfind
    by_cases h : c = p.1
    · simp [h]
    · rw [if_neg h, find_iff c r (i + 1)]
      simp [h]
structure InvM (M : MQ) (E : List Ev) : Prop where
  n : (M.map Prod.fst).Nodup
  k : ∀ c, c ∈ M.map Prod.fst ↔ c ∈ E.map Prod.fst
  g : ∀ p ∈ M, p.2 = grp E p.1
theorem keys_mapp (M : MQ) (c : Int × Int) (s : Sl) : (Mq.mapp M c s).map Prod.fst = (Mq.madd c M).map Prod.fst := by
  unfold Mq.mapp
  refine List.ext_getElem? fun i => ?_
  simp only [List.getElem?_map, List.getElem?_modify]
  split
  · cases (Mq.madd c M)[i]? <;> rfl
  · cases (Mq.madd c M)[i]? <;> rfl
theorem inv_put {M : MQ} {E : List Ev} (h : InvM M E) (e : Ev) : InvM (putM M e) (E ++ [e]) := by
  obtain ⟨c, s⟩ := e
  have hka : (Mq.madd c M).map Prod.fst = if c ∈ M.map Prod.fst then M.map Prod.fst else M.map Prod.fst ++ [c] := by
    unfold Mq.madd
    by_cases hc : c ∈ M.map Prod.fst
    · rw [if_pos ((find_iff c M 0).2 hc), if_pos hc]
    · rw [if_neg (fun e => hc ((find_iff c M 0).1 e)), if_neg hc]
      simp
  have hna : ((Mq.madd c M).map Prod.fst).Nodup := by
    rw [hka]
    split
    · exact h.n
    · rename_i hc
      exact List.nodup_append.2 ⟨h.n, by simp, fun a ha b hb => by
        rw [List.mem_singleton] at hb
        subst hb
        rintro rfl
        exact hc ha⟩
  have hga : ∀ p ∈ Mq.madd c M, p.2 = grp E p.1 := fun p hp => by
    unfold Mq.madd at hp
    split at hp
    · exact h.g p hp
    · rename_i hf
      rcases List.mem_append.1 hp with hp | hp
      · exact h.g p hp
      · rw [List.mem_singleton] at hp
        subst hp
        have hc : c ∉ E.map Prod.fst := fun e => hf ((find_iff c M 0).2 ((h.k c).2 e))
        exact (grp_none hc).symm
  refine ⟨by show ((Mq.mapp M c s).map Prod.fst).Nodup; rw [keys_mapp]; exact hna, fun d => ?_, fun p hp => ?_⟩
  · show d ∈ (Mq.mapp M c s).map Prod.fst ↔ _
    rw [keys_mapp, hka, List.map_append, List.mem_append]
    have hk := h.k d
    split
    · rename_i hc
      constructor
      · exact fun hd => .inl (hk.1 hd)
      · rintro (hd | hd)
        · exact hk.2 hd
        · simp at hd
          rw [hd]
          exact hc
    · rw [List.mem_append, hk]
      simp
  · obtain ⟨j, hj⟩ := List.getElem?_of_mem hp
    have hj' : (Mq.mapp M c s)[j]? = some p := hj
    unfold Mq.mapp at hj'
    rw [List.getElem?_modify] at hj'
    have hq := Mq.madd_at c M
    by_cases e : Mq.qidx c M = j
    · subst e
      rw [hq] at hj'
      simp at hj'
      subst hj'
      rw [grp_snoc, if_pos rfl]
      have := hga _ (List.mem_of_getElem? hq)
      simp only at this ⊢
      rw [this]
    · have hj2 : (Mq.madd c M)[j]? = some p := by simpa [e] using hj'
      have hne : c ≠ p.1 := fun e2 => by
        have h1 : ((Mq.madd c M).map Prod.fst)[Mq.qidx c M]? = some c := by rw [List.getElem?_map, hq]; rfl
        have h2 : ((Mq.madd c M).map Prod.fst)[j]? = some c := by rw [List.getElem?_map, hj2, e2]; rfl
        exact e ((List.getElem?_inj (List.getElem?_eq_some_iff.1 h1).1 hna).1 (h1.trans h2.symm))
      rw [grp_snoc, if_neg hne]
      exact hga p (List.mem_of_getElem? hj2)
theorem inv_fold (E : List Ev) : ∀ (M : MQ) (E0 : List Ev), InvM M E0 → InvM (E.foldl putM M) (E0 ++ E) := by
  induction E with
  | nil => intro M E0 h; simpa using h
  | cons e r ih =>
    intro M E0 h
    have := ih _ _ (inv_put h e)
    simpa [List.append_assoc] using this
theorem invM (E : List Ev) : InvM (E.foldl putM []) E := by
  have := inv_fold E [] [] ⟨by simp, fun c => by simp, fun p hp => by simp at hp⟩
  simpa using this
theorem insS_perm (s : Sl) : ∀ l : List Sl, (insS s l).Perm (s :: l)
  | [] => .refl _
  | x :: r => by
    rw [insS]
    split
    · exact ((insS_perm s r).cons x).trans (List.Perm.swap s x r)
    · exact .refl _
abbrev SrtS (l : List Sl) : Prop := l.Pairwise fun a b => slt (sk b) (sk a) = false
theorem insS_sorted (s : Sl) : ∀ {l : List Sl}, SrtS l → SrtS (insS s l)
  | [], _ => by simp [insS, SrtS]
  | x :: r, h => by
    have h1 := List.pairwise_cons.1 h
    rw [insS]
    split
    · rename_i hx
      refine List.pairwise_cons.2 ⟨fun y hy => ?_, insS_sorted s h1.2⟩
      rcases List.mem_cons.1 ((insS_perm s r).mem_iff.1 hy) with rfl | hy
      · exact to_s.asym hx
      · exact h1.1 y hy
    · rename_i hx
      have hx : slt (sk x) (sk s) = false := by simpa using hx
      refine List.pairwise_cons.2 ⟨fun y hy => ?_, h⟩
      rcases List.mem_cons.1 hy with rfl | hy
      · exact hx
      · exact to_s.nt _ _ _ (h1.1 y hy) hx
abbrev Asc (I : List Ce) : Prop := I.Pairwise fun a b => clt (cp a) (cp b) = true
theorem insC_mem {c : Int × Int} {s : Sl} : ∀ {I : List Ce}, Asc I → ∀ x ∈ insC c s I, (x ∈ I ∧ cp x ≠ c) ∨ (cp x = c ∧ ((∃ y ∈ I, cp y = c ∧ x.f2 = insS s y.f2) ∨ ((∀ y ∈ I, cp y ≠ c) ∧ x.f2 = [s])))
  | [], _, x, hx => by
    simp [insC] at hx
    subst hx
    exact .inr ⟨rfl, .inr ⟨by simp, rfl⟩⟩
  | y :: r, h, x, hx => by
    have h1 := List.pairwise_cons.1 h
    rw [insC] at hx
    split at hx
    · rename_i hy
      have hyc : cp y ≠ c := fun e => by rw [e, to_c.irr] at hy; cases hy
      rcases List.mem_cons.1 hx with rfl | hx
      · exact .inl ⟨by simp, hyc⟩
      · rcases insC_mem h1.2 x hx with ⟨ha, hb⟩ | ⟨ha, ⟨z, hz, hzc, he⟩ | ⟨hn, he⟩⟩
        · exact .inl ⟨by simp [ha], hb⟩
        · exact .inr ⟨ha, .inl ⟨z, by simp [hz], hzc, he⟩⟩
        · exact .inr ⟨ha, .inr ⟨fun z hz => by
            rcases List.mem_cons.1 hz with rfl | hz
            · exact hyc
            · exact hn z hz, he⟩⟩
    · rename_i hy
      have hy : clt (cp y) c = false := by simpa using hy
      have hr : ∀ z ∈ r, cp z ≠ c := fun z hz e => by have := h1.1 z hz; rw [e, hy] at this; cases this
      split at hx
      · rename_i hyc
        rcases List.mem_cons.1 hx with rfl | hx
        · exact .inr ⟨hyc, .inl ⟨y, by simp, hyc, rfl⟩⟩
        · exact .inl ⟨by simp [hx], hr x hx⟩
      · rename_i hyc
        rcases List.mem_cons.1 hx with rfl | hx
        · exact .inr ⟨rfl, .inr ⟨fun z hz => by
            rcases List.mem_cons.1 hz with rfl | hz
            · exact hyc
            · exact hr z hz, rfl⟩⟩
        · rcases List.mem_cons.1 hx with rfl | hx
          · exact .inl ⟨by simp, hyc⟩
          · exact .inl ⟨by simp [hx], hr x hx⟩
theorem insC_key {c d : Int × Int} {s : Sl} : ∀ (I : List Ce), d ∈ (insC c s I).map cp ↔ d = c ∨ d ∈ I.map cp
  | [] => by simp [insC, cp]
  | y :: r => by
    have ih := insC_key (c := c) (d := d) (s := s) r
    rw [insC]
    split
    · simp only [List.map_cons, List.mem_cons, ih]
      constructor
      · rintro (h | h | h)
        · exact .inr (.inl h)
        · exact .inl h
        · exact .inr (.inr h)
      · rintro (h | h | h)
        · exact .inr (.inl h)
        · exact .inl h
        · exact .inr (.inr h)
    · split
      · rename_i hyc
        simp only [List.map_cons, List.mem_cons]
        rw [show cp ⟨y.f0, y.f1, insS s y.f2⟩ = cp y from rfl, hyc]
        simp
      · simp only [List.map_cons, List.mem_cons]
        rw [show cp ⟨c.1, c.2, [s]⟩ = c from rfl]
theorem insC_asc (c : Int × Int) (s : Sl) : ∀ {I : List Ce}, Asc I → Asc (insC c s I)
  | [], _ => by simp [insC, Asc]
  | y :: r, h => by
    have h1 := List.pairwise_cons.1 h
    rw [insC]
    split
    · rename_i hy
      refine List.pairwise_cons.2 ⟨fun z hz => ?_, insC_asc c s h1.2⟩
      rcases (insC_key r).1 (List.mem_map_of_mem (f := cp) hz) with e | e
      · rw [e]; exact hy
      · obtain ⟨u, hu, he⟩ := List.mem_map.1 e
        rw [← he]
        exact h1.1 u hu
    · rename_i hy
      have hy : clt (cp y) c = false := by simpa using hy
      split
      · exact List.pairwise_cons.2 ⟨fun z hz => h1.1 z hz, h1.2⟩
      · rename_i hyc
        have hlt : clt c (cp y) = true := by
          cases e : clt c (cp y) with
          | true => rfl
          | false => exact absurd (to_c.tot _ _ hy e) hyc
        refine List.pairwise_cons.2 ⟨fun z hz => ?_, h⟩
        rcases List.mem_cons.1 hz with rfl | hz
        · exact hlt
        · exact to_c.tr _ _ _ hlt (h1.1 z hz)
structure InvI (I : List Ce) (E : List Ev) : Prop where
  a : Asc I
  k : ∀ c, c ∈ I.map cp ↔ c ∈ E.map Prod.fst
  g : ∀ x ∈ I, x.f2.Perm (grp E (cp x)) ∧ SrtS x.f2
theorem invI_put {I : List Ce} {E : List Ev} (h : InvI I E) (e : Ev) : InvI (putI I e) (E ++ [e]) := by
  obtain ⟨c, s⟩ := e
  refine ⟨insC_asc c s h.a, fun d => ?_, fun x hx => ?_⟩
  · show d ∈ (insC c s I).map cp ↔ _
    rw [insC_key, h.k d, List.map_append, List.mem_append]
    simp [or_comm]
  · rcases insC_mem h.a x hx with ⟨ha, hb⟩ | ⟨ha, ⟨y, hy, hyc, he⟩ | ⟨hn, he⟩⟩
    · rw [grp_snoc, if_neg (Ne.symm hb)]
      exact h.g x ha
    · rw [grp_snoc, if_pos ha.symm, ha, he]
      have hg := h.g y hy
      rw [hyc] at hg
      exact ⟨((insS_perm s y.f2).trans (hg.1.cons s)).trans (List.perm_append_comm (l₁ := [s])), insS_sorted s hg.2⟩
    · have hc : c ∉ E.map Prod.fst := fun e => by
        obtain ⟨y, hy, hyc⟩ := List.mem_map.1 ((h.k c).2 e)
        exact hn y hy hyc
      rw [grp_snoc, if_pos ha.symm, ha, he, grp_none hc]
      exact ⟨.refl _, by simp [SrtS]⟩
theorem invI_fold (E : List Ev) : ∀ (I : List Ce) (E0 : List Ev), InvI I E0 → InvI (E.foldl putI I) (E0 ++ E) := by
  induction E with
  | nil => intro M E0 h; simpa using h
  | cons e r ih =>
    intro M E0 h
    have := ih _ _ (invI_put h e)
    simpa [List.append_assoc] using this
theorem invI (E : List Ev) : InvI (E.foldl putI []) E := by
  have := invI_fold E [] [] ⟨by simp [Asc], fun c => by simp, fun x hx => by simp at hx⟩
  simpa using this
theorem perm_nodup {l l' : List (Int × Int)} (h1 : l.Nodup) (h2 : l'.Nodup) (h : ∀ a, a ∈ l ↔ a ∈ l') : l.Perm l' := by
  refine List.perm_iff_count.2 fun a => ?_
  rw [h1.count, h2.count]
  simp [h a]
theorem fin_one (E : List Ev) (hn : (E.map fun e => sk e.2).Nodup) : fin (E.foldl putM []) = some (E.foldl putI []) := by
  have hM := invM E
  have hI := invI E
  generalize E.foldl putM [] = M at hM
  generalize E.foldl putI [] = I at hI
  have hin : (I.map cp).Nodup := by
    refine List.Pairwise.map cp (S := fun a b => a ≠ b) ?_ hI.a
    intro a b hab e
    rw [e, to_c.irr] at hab
    cases hab
  have hp : (I.map cp).Perm (M.map Prod.fst) := perm_nodup hin hM.n fun c => by rw [hI.k, hM.k]
  have e1 : M.map (fun p => (p.1, srt slt sk p.2)) = (M.map Prod.fst).map fun c => (c, srt slt sk (grp E c)) := by
    rw [List.map_map]
    refine List.map_congr_left fun p hp => ?_
    rw [hM.g p hp]
    rfl
  have e2 : I.map (fun x => (cp x, x.f2)) = (I.map cp).map fun c => (c, srt slt sk (grp E c)) := by
    rw [List.map_map]
    refine List.map_congr_left fun x hx => ?_
    have hg := hI.g x hx
    show (cp x, x.f2) = (cp x, srt slt sk (grp E (cp x)))
    rw [srt_eq to_s sk hg.1 hg.2 (grp_nodup hn _)]
  have e3 : I.map (fun x => (cp x, x.f2)) = srt clt (fun p : (Int × Int) × List Sl => p.1) (M.map fun p => (p.1, srt slt sk p.2)) := by
    refine srt_eq to_c _ ?_ ?_ ?_
    · rw [e1, e2]
      exact hp.map _
    · rw [List.pairwise_map]
      exact hI.a.imp fun {a b} h => to_c.asym h
    · rw [List.map_map]
      exact hM.n
  unfold fin
  rw [if_pos ⟨hM.n, fun p hp => by rw [hM.g p hp]; exact grp_nodup hn _⟩, ← e3, List.map_map]
  congr 1
  conv => rhs; rw [← List.map_id I]
  rfl
theorem evB_len (nm : ByteArray) : ∀ (a : Nat) (B : List S45), (evB nm a B).length = B.length
  | _, [] => rfl
  | a, b :: r => by simp [evB, evB_len nm (a + 1) r]
theorem evB_mem {nm : ByteArray} : ∀ {a : Nat} {B : List S45} {e : Ev}, e ∈ evB nm a B → e.2.f4 = nm ∧ (a : Int) ≤ e.2.f5
  | _, [], _, h => by simp [evB] at h
  | a, b :: r, e, h => by
    rcases List.mem_cons.1 h with rfl | h
    · exact ⟨rfl, Int.le_refl _⟩
    · have := evB_mem h
      exact ⟨this.1, by have := this.2; omega⟩
theorem evB_nodup (nm : ByteArray) : ∀ (a : Nat) (B : List S45), ((evB nm a B).map fun e => sk e.2).Nodup
  | _, [] => by simp [evB]
  | a, b :: r => by
    rw [evB, List.map_cons, List.nodup_cons]
    refine ⟨fun h => ?_, evB_nodup nm (a + 1) r⟩
    obtain ⟨e, he, hs⟩ := List.mem_map.1 h
    have h1 := (evB_mem he).2
    unfold sk at hs
    simp only [Prod.mk.injEq] at hs
    omega
theorem evT_mem : ∀ {L : List S42} {e : Ev}, e ∈ evT L → ∃ t ∈ L, e.2.f4 = t.f0
  | [], _, h => by simp [evT] at h
  | t :: r, e, h => by
    rcases List.mem_append.1 h with h | h
    · exact ⟨t, by simp, (evB_mem h).1⟩
    · obtain ⟨u, hu, he⟩ := evT_mem h
      exact ⟨u, by simp [hu], he⟩
theorem sky_lt : ∀ {L : List S42} {p : Option ByteArray}, skyFrom p L = true → (∀ n, p = some n → ∀ t ∈ L, lt n t.f0 = true) ∧ ((evT L).map fun e => sk e.2).Nodup
  | [], p, _ => ⟨fun n _ t ht => by simp at ht, by simp [evT]⟩
  | t :: r, p, h => by
    simp only [skyFrom, Bool.and_eq_true] at h
    obtain ⟨⟨_, h2⟩, h3⟩ := h
    obtain ⟨ih1, ih2⟩ := sky_lt h3
    have hlt := ih1 t.f0 rfl
    refine ⟨fun n hn u hu => ?_, ?_⟩
    · subst hn
      have h2 : lt n t.f0 = true := h2
      rcases List.mem_cons.1 hu with rfl | hu
      · exact h2
      · exact bl_tr _ _ _ h2 (hlt u hu)
    · rw [evT, List.map_append]
      refine List.nodup_append.2 ⟨evB_nodup _ _ _, ih2, fun a ha b hb e => ?_⟩
      obtain ⟨x, hx, rfl⟩ := List.mem_map.1 ha
      obtain ⟨y, hy, hyx⟩ := List.mem_map.1 hb
      obtain ⟨u, hu, he⟩ := evT_mem hy
      have h4 := (evB_mem hx).1
      have h5 := hlt u hu
      rw [← hyx] at e
      unfold sk at e
      simp only [Prod.mk.injEq] at e
      rw [h4, he] at e
      unfold lt at h5
      rw [e.2.1, bl_irr] at h5
      cases h5
theorem sky_boxes : ∀ {L : List S42} {p : Option ByteArray}, skyFrom p L = true → ∀ t ∈ L, t.f1.length ≤ 40
  | [], p, _, t, ht => by simp at ht
  | u :: r, p, h, t, ht => by
    simp only [skyFrom, Bool.and_eq_true] at h
    obtain ⟨⟨h1, _⟩, h3⟩ := h
    rcases List.mem_cons.1 ht with rfl | ht
    · simp only [tubeOk, Bool.and_eq_true, decide_eq_true_eq] at h1
      exact h1.1.2
    · exact sky_boxes h3 t ht
theorem evT_len : ∀ {L : List S42}, (∀ t ∈ L, t.f1.length ≤ 40) → (evT L).length ≤ 40 * L.length
  | [], _ => by simp [evT]
  | t :: r, h => by
    have h1 := h t (by simp)
    have h2 := evT_len (L := r) fun u hu => h u (by simp [hu])
    rw [evT, List.length_append, evB_len, List.length_cons]
    omega
theorem index_one {L : List S42} (h : skyOk L = true) : (evT L).length ≤ 960 ∧ Ix.spec L = some ((evT L).foldl putI []) ∧ Ix.impl L = some ((evT L).foldl putI []) := by
  simp only [skyOk, Bool.and_eq_true, decide_eq_true_eq] at h
  obtain ⟨h1, h2⟩ := h
  have h3 := sky_boxes h2
  have h4 := evT_len h3
  have hs : Small L := ⟨by omega, by omega, fun t ht => by have := h3 t ht; omega⟩
  refine ⟨by omega, ?_, ?_⟩
  · unfold Ix.spec
    rw [if_pos hs]
  · unfold Ix.impl
    rw [if_pos hs]
    exact fin_one _ (sky_lt h2).2
end Go.Proofs.Ytgklmafdbgnohaa.Q
end
section
namespace Go.Proofs.Ytgklmafdbgnohaa.Pure
open Go.RowKit Go.Proofs.Ytgklmafdbgnohaa.PA Go.Proofs.Ytgklmafdbgnohaa.Q Go.Proofs.YtgklmafdbgnohaaW.PrintWords Go.Proofs.YtgklmafdbgnohaaW.PrintLast Go.Proofs.Ytgklmafdbgnohaa.Ix
set_option linter.unusedVariables false
set_option linter.unusedSimpArgs false
theorem map_ok {l : List S38} (hb : ∀ x ∈ l, x.f1.length ≤ 1048576 ∧ x.f0.size ≤ 1048576) : ∀ x ∈ l.map cvT, x.f1.length ≤ 1048576 := by
  intro x hx
  obtain ⟨y, hy, rfl⟩ := List.mem_map.1 hx
  simp only [cvT, List.length_map]
  exact (hb y hy).1
def ixOf (L : List S42) : List S56 := if skyOk L = true then (evT L).foldl putI [] else []
theorem ix_small (L : List S42) : (ixOf L).length ≤ 960 ∧ ∀ c ∈ ixOf L, c.f2.length ≤ 960 := by
  unfold ixOf
  split
  · rename_i h
    have h1 := (index_one h).1
    have h2 := Ij.small_of (evT L)
    exact ⟨by omega, fun c hc => Nat.le_trans (h2.2 c hc) h1⟩
  · simp
theorem impl_ix (L : List S42) : Ev (fun k => impl_ProbeIndexOf.f k L) (ixOf L) := by
  unfold impl_ProbeIndexOf.f ixOf
  by_cases h : skyOk L = true
  · rw [if_pos h]
    refine Ev.bind (impl_sky L) (Ev.pos h ?_)
    rw [(index_one h).2.2]
    exact Ev.now _
  · rw [if_neg h]
    exact Ev.bind (impl_sky L) (Ev.neg h (Ev.now _))
theorem spec_ix (L : List S42) : Ev (fun k => spec_ProbeIndexOf.f k L) (ixOf L) := by
  unfold spec_ProbeIndexOf.f ixOf
  by_cases h : skyOk L = true
  · rw [if_pos h]
    refine Ev.bind (spec_sky L) (Ev.pos h ?_)
    rw [(index_one h).2.1]
    exact Ev.now _
  · rw [if_neg h]
    exact Ev.bind (spec_sky L) (Ev.neg h (Ev.now _))
theorem FnExactProbeIndexOf (L : List S38) (w : g_tubes L) : ∃ k, laws_FnExactProbeIndexOf.f k L = some true := by
  refine Ev.rounds (g := fun k => laws_FnExactProbeIndexOf.f k L) ?_
  unfold laws_FnExactProbeIndexOf.f
  obtain ⟨m, hm, h⟩ := sz_tubes L w
  refine Ev.bind hm ?_
  rcases h with rfl | ⟨h0, h1, hl, hb⟩
  · exact Ev.pos (by omega) (Ev.now true)
  have ht := to_tubes L hl (fun x hx => (hb x hx).1)
  have hml : (L.map cvT).length ≤ 1048576 := by rw [List.length_map]; exact hl
  have hcn := cnt_le (map_ok hb)
  have hi := impl_ix (L.map cvT)
  have hs := spec_ix (L.map cvT)
  have hsm := ix_small (L.map cvT)
  generalize ixOf (L.map cvT) = R at hi hs hsm
  have hR : ∀ c ∈ R, c.f2.length ≤ 1048576 := fun c hc => by have := hsm.2 c hc; omega
  have he := eq_index R (by omega) (fun c hc => by have := hR c hc; omega)
  have hmk := mark_index R (by omega) hR
  have hh := held_index R (by omega) hR
  have hcR := cntI_le hR
  have hmt := mark_tubes (L.map cvT) hml (map_ok hb)
  have het := eq_tubes (L.map cvT) (by omega) (fun x hx => by have := map_ok hb x hx; omega)
  refine Ev.neg (by omega) (Ev.bind ht (Ev.bind hs (Ev.bind ht (Ev.bind hi (Ev.bind he (Ev.pos rfl (Ev.bind ht (Ev.bind het (Ev.pos rfl (Ev.bind hmt (Ev.neg (by simp only; omega) (Ev.bind he ?_))))))))))))
  exact Ev.step (fun k => laws_FnExactProbeIndexOf.j0.eq_2 ..) (Ev.neg (by simp) (Ev.bind hmk (Ev.bind hh (Ev.neg (by omega) (Ev.pos rfl (Ev.bind ht (Ev.bind hi (Ev.bind he (Ev.pos rfl (Ev.bind hh (Ev.neg (by omega) (Ev.pos rfl (Ev.now true)))))))))))))
end Go.Proofs.Ytgklmafdbgnohaa.Pure
end
