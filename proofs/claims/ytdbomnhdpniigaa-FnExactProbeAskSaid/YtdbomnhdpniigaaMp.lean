/- A map[string]struct that the call makes, as a list of its entries in the order of their first store: the block is a function of that list. Look-up, store, range, its keys sorted. No condition. -/
import Derived.Maps.RangeWalk
import Derived.Sort.KeysCollected
import Derived.Sort.OwnSorted
import Derived.Test.YtdbomnhdpniigaaPAs
namespace Go.Proofs.Ytdbomnhdpniigaa.Mp
set_option linter.unusedSimpArgs false
set_option linter.unusedVariables false
open Go.RowKit Go.Proofs.Ytdbomnhdpniigaa.PA Go.Proofs.YtdbomnhdpniigaaW.PrintWords Go.Proofs.YtdbomnhdpniigaaW.PrintLast Go.Proofs.YtdbomnhdpniigaaW.PrintMore
open Go.MapKept Go.WideElems Go.WideShapes Go.ChangeMaps
abbrev MS := List (ByteArray × S49)
def mval (c : S49) : Value := .agg #[.string c.f0, .string c.f1, .int .i64 c.f2, .int .i64 c.f3, .int .i64 c.f4]
def entsFrom : MS → Nat → List MapEntry
  | [], _ => []
  | p :: r, i => { key := .string p.1, val := mval p.2, born := i } :: entsFrom r (i + 1)
def mobj (M : MS) : Obj := .map (entsFrom M 0).toArray M.length
def mfind (s : ByteArray) : MS → Nat → Option (Nat × S49)
  | [], _ => none
  | p :: r, i => if s = p.1 then some (i, p.2) else mfind s r (i + 1)
def mhas (M : MS) (s : ByteArray) : Bool := (mfind s M 0).isSome
def mget (M : MS) (s : ByteArray) : S49 := ((mfind s M 0).map Prod.snd).getD z49
def mput (M : MS) (s : ByteArray) (c : S49) : MS := match mfind s M 0 with | some (i, _) => M.set i (s, c) | none => M ++ [(s, c)]
theorem length_ents : ∀ (M : MS) (i : Nat), (entsFrom M i).length = M.length
  | [], _ => rfl
  | p :: r, i => by simp [entsFrom, length_ents r]
theorem ents_append (p : ByteArray × S49) : ∀ (M : MS) (i : Nat), entsFrom (M ++ [p]) i = entsFrom M i ++ [{ key := .string p.1, val := mval p.2, born := i + M.length }]
  | [], i => rfl
  | q :: r, i => by simp [entsFrom, ents_append p r, Nat.add_assoc, Nat.add_comm 1]
theorem ents_set (s : ByteArray) (c : S49) : ∀ (M : MS) (i j : Nat), entsFrom (M.set j (s, c)) i = (entsFrom M i).modify j fun e => { e with key := .string s, val := mval c }
  | [], i, j => by simp [entsFrom]
  | q :: r, i, 0 => rfl
  | q :: r, i, j + 1 => by simp [entsFrom, ents_set s c r]
theorem ba_beq (a b : ByteArray) : (a == b) = decide (a = b) := by
  rw [Bool.eq_iff_iff, decide_eq_true_eq]
  cases a with | mk x => cases b with | mk y =>
  show (x == y) = true ↔ _
  simp
theorem findNow_ents (s : ByteArray) : ∀ (M : MS) (i b : Nat), Instr.findNow .string (.string s) (entsFrom M b) i = some ((mfind s M i).map fun p => (p.1, mval p.2))
  | [], i, b => rfl
  | q :: r, i, b => by
    simp only [entsFrom, Instr.findNow, Instr.sameNow, mfind]
    rw [ba_beq]
    by_cases h : s = q.1
    · simp [h]
    · simp only [h, decide_false, if_false]
      exact findNow_ents s r (i + 1) (b + 1)
theorem mfind_get (s : ByteArray) : ∀ (M : MS) (i : Nat) {j : Nat} {c : S49}, mfind s M i = some (j, c) → i ≤ j ∧ M[j - i]? = some (s, c)
  | [], i, j, c, h => by simp [mfind] at h
  | q :: r, i, j, c, h => by
    simp only [mfind] at h
    split at h
    · rename_i hq
      cases h
      exact ⟨Nat.le_refl _, by simp [hq]⟩
    · obtain ⟨h1, h2⟩ := mfind_get s r (i + 1) h
      refine ⟨by omega, ?_⟩
      rw [show j - i = (j - (i + 1)) + 1 by omega]
      simpa using h2
theorem ents_key : ∀ (M : MS) (i j : Nat), (entsFrom M i)[j]?.map (·.key) = (M.map fun p => Value.string p.1)[j]?
  | [], i, j => by simp [entsFrom]
  | q :: r, i, 0 => by simp [entsFrom]
  | q :: r, i, j + 1 => by simpa [entsFrom] using ents_key r (i + 1) j
section
variable {w : World} {g : Nat} {M : MS}
theorem under113 : Try.prog.underlying 113 = some (.map 9 49) := Try.underlying113
theorem under9 : Try.prog.underlying 9 = some .string := Try.underlying9
theorem zero49 (w : World) : (zeroValue 49).run Try.prog w = .ok (mval z49) w := by kernel_rfl
theorem run_look (hB : w.heap[g]? = some (mobj M)) (s : ByteArray) (c : Bool) : (Instr.lookup 113 (.map (some g)) (.string s) c).run Try.prog w = .ok (if c then .tuple #[mval (mget M s), .bool (mhas M s)] else mval (mget M s)) w := by
  unfold mobj at hB
  have hf := run_findKey (w := w) under9 (findNow_ents s M 0 0)
  have hk : ∀ b, (Instr.checkKey b 10000 9 (.string s)).run Try.prog w = .ok () w := fun b => run_checkKey under9 (show IsKey .string (.string s) from trivial) b 9999
  cases h : mfind s M 0 with
  | none =>
    rw [h] at hf
    simp [Instr.lookup, run_underlying under113, Go.MapKept.run_getObj_map hB, hk, hf, zero49, mhas, mget, h, Result.andThen]
    cases c <;> simp [zero49] <;> rfl
  | some p =>
    rw [h] at hf
    simp [Instr.lookup, run_underlying under113, Go.MapKept.run_getObj_map hB, hk, hf, mhas, mget, h, Result.andThen]
theorem run_upd (hB : w.heap[g]? = some (mobj M)) (s : ByteArray) (c : S49) : (Instr.mapUpdate 113 (.map (some g)) (.string s) (mval c)).run Try.prog w = .ok () { w with heap := w.heap.setIfInBounds g (mobj (mput M s c)) } := by
  unfold mobj at hB
  have hf := run_findKey (w := w) under9 (findNow_ents s M 0 0)
  have hk : ∀ b, (Instr.checkKey b 10000 9 (.string s)).run Try.prog w = .ok () w := fun b => run_checkKey under9 (show IsKey .string (.string s) from trivial) b 9999
  cases h : mfind s M 0 with
  | none =>
    rw [h] at hf
    simp [Instr.mapUpdate, run_underlying under113, Go.MapKept.run_getObj_map hB, hk, hf, mput, h, Result.andThen, Go.MapKept.run_setObj_map _ hB, mobj, ents_append]
  | some p =>
    obtain ⟨j, d⟩ := p
    rw [h] at hf
    obtain ⟨_, h2⟩ := mfind_get s M 0 h
    have hj : (entsFrom M 0)[j]?.map (·.key) = some (.string s) := by rw [ents_key]; simp only [Nat.sub_zero] at h2; simp [h2]
    obtain ⟨e, he, hek⟩ : ∃ e, (entsFrom M 0)[j]? = some e ∧ e.key = .string s := by simpa using hj
    have hst : (Instr.keyThatStays (.string s) (.string s)).run Try.prog w = .ok (.string s) w := by
      have : Instr.sameBits 10000 (.string s) (.string s) = true := by show (s == s) = true; rw [ba_beq]; simp
      simp [Instr.keyThatStays, this]
    simp [Instr.mapUpdate, run_underlying under113, Go.MapKept.run_getObj_map hB, hk, hf, mput, h, Result.andThen, Go.MapKept.run_setObj_map _ hB, mobj, ents_set, he, hek, hst]
variable {ops : Array Oper} {rest : List Oper} {o : Oper} {a : Act} {Q : Exit → Act → World → Prop}
/-- make(map[K]V) at the operation. -/
theorem mk_event (hgd : o.guard = none) (hop : o.op = .makeMap 113 none) (h : ∀ g, g = w.heap.size → ∀ w1 : World, w1.heap[g]? = some (mobj []) → Below w.heap.size w w1 → wpList Try.prog ops Q rest (a.put o.dst (.map (some g))) w1) : wpList Try.prog ops Q (o :: rest) a w := by
  refine wpList_plain hgd fun K hK => ?_
  unfold Oper.wp
  simp [execOp, hop, run_makeMap, Result.andThen]
  exact hK _ _ (h _ rfl _ (heap_alloc w _).1 (below_alloc (Below.refl _ _) _))
/-- v, ok := m[s] -/
theorem look_event (hgd : o.guard = none) (m x : Operand) (hop : o.op = .lookup 113 m x true) (s : ByteArray) (hm : a.eval m = .map (some g)) (hx : a.eval x = .string s) (hB : w.heap[g]? = some (mobj M))
    (h : wpList Try.prog ops Q rest (a.put o.dst (.tuple #[mval (mget M s), .bool (mhas M s)])) w) : wpList Try.prog ops Q (o :: rest) a w := by
  refine wpList_plain hgd fun K hK => ?_
  have := run_look hB s true
  unfold Oper.wp
  simp [execOp, hop, hm, hx, this, Result.andThen]
  exact hK _ _ h
/-- m[s] -/
theorem get_event (hgd : o.guard = none) (m x : Operand) (hop : o.op = .lookup 113 m x false) (s : ByteArray) (hm : a.eval m = .map (some g)) (hx : a.eval x = .string s) (hB : w.heap[g]? = some (mobj M))
    (h : wpList Try.prog ops Q rest (a.put o.dst (mval (mget M s))) w) : wpList Try.prog ops Q (o :: rest) a w := by
  refine wpList_plain hgd fun K hK => ?_
  have := run_look hB s false
  unfold Oper.wp
  simp [execOp, hop, hm, hx, this, Result.andThen]
  exact hK _ _ h
/-- m[s] = v -/
theorem upd_event (hgd : o.guard = none) (m x v : Operand) (hop : o.op = .mapUpdate 113 m x v) (hd : o.dst = none) (s : ByteArray) (c : S49) (hm : a.eval m = .map (some g)) (hx : a.eval x = .string s) (hv : a.eval v = mval c) (hB : w.heap[g]? = some (mobj M))
    (h : ∀ w1 : World, w1.heap[g]? = some (mobj (mput M s c)) → w.grownBy w1 (some g) → wpList Try.prog ops Q rest a w1) : wpList Try.prog ops Q (o :: rest) a w := by
  refine wpList_plain hgd fun K hK => ?_
  have := run_upd hB s c
  have hl : g < w.heap.size := (Array.getElem?_eq_some_iff.1 hB).1
  unfold Oper.wp
  have h1 := h { w with heap := w.heap.setIfInBounds g (mobj (mput M s c)) } (by simp [hl]) ⟨rfl, rfl, rfl, by simp, fun i _ hi => by
    have : g ≠ i := fun e => hi (by rw [e])
    simp [Array.getElem?_setIfInBounds, this]⟩
  simp [execOp, hop, hm, hx, hv, this, Result.andThen]
  show K (a.put o.dst undef) _
  rw [hd]
  exact hK _ _ h1
/-- The map's block, over what the walk has laid on the world. -/
theorem mfar {W : World} {o : Obj} {p : Addr} (h : W.heap[g]? = some o) (hn : g ≠ p.block) (u : Value) : (W.setCell p u).heap[g]? = some o := (Below.heap_setCell W p u g hn).trans h
theorem mb {W : World} (h : Aside0 (w.heap[g]? = some (mobj M))) (e : w.heap[g]? = some (mobj M) → W.heap[g]? = some (mobj M) := by
    (intro hq_; (repeat (first | (with_reducible exact hq_) | (with_reducible refine blk_drewN ?_ _) | (with_reducible refine blk_drew ?_) | (with_reducible refine blk_alloc ?_ _) | refine Mp.mfar ?_ (Aside0.out (by assumption)) _)))) : W.heap[g]? = some (mobj M) := e h.out
theorem mn {g' : Nat} {o : Obj} {W : World} (hg : g' = W.heap.size) (h : W.heap[g]? = some o) : Aside0 (g ≠ g') := ⟨by rw [hg]; exact Nat.ne_of_lt (blk_lt h)⟩
theorem mm {g' : Nat} {o : Obj} {W : World} (hg : g' = W.heap.size) (h : W.heap[g]? = some o) : Aside0 (g' ≠ g) := ⟨by rw [hg]; exact Nat.ne_of_gt (blk_lt h)⟩
/-! ### The keys, sorted -/
def Rc : Value → Option (DataW Unit × List MemPlace) := fun _ => some (.lit (.bool true), [])
theorem law9 : Go.Maps.Keyed Try.prog 9 := Go.Maps.string_keyed under9
noncomputable def mdat (M : MS) : DataW Unit := .map (((entsFrom M 0).map (Go.WideElems.rg Try.prog 9 Rc)).foldr DataW.insert [])
def keyL (M : MS) : List (List UInt8) := M.map fun p => p.1.data.toList
def sorted (l : List (List UInt8)) : List ByteArray := (l.mergeSort leB).map fun x => ⟨x.toArray⟩
/-- The keys, sorted; none: there are too many, or one is too long for the form. -/
def mnames (M : MS) : Option (List ByteArray) := if (∀ p ∈ M, p.1.size ≤ 1000000000) ∧ (M.map Prod.fst).Nodup ∧ M.length ≤ 1000000000 then some (sorted (keyL M)) else none
theorem mnames_inv {t : List ByteArray} (h : mnames M = some t) : ((∀ p ∈ M, p.1.size ≤ 1000000000) ∧ (M.map Prod.fst).Nodup ∧ M.length ≤ 1000000000) ∧ t = sorted (keyL M) := by
  unfold mnames at h
  split at h
  · rename_i hc
    exact ⟨hc, (Option.some.inj h).symm⟩
  · cases h
theorem mem_ents : ∀ (M : MS) (i : Nat) {e : MapEntry}, e ∈ entsFrom M i → ∃ p ∈ M, e.key = .string p.1 ∧ e.val = mval p.2 ∧ i ≤ e.born ∧ e.born < i + M.length
  | [], _, e, h => by simp [entsFrom] at h
  | q :: r, i, e, h => by
    simp only [entsFrom, List.mem_cons] at h
    rcases h with rfl | h
    · exact ⟨q, by simp, rfl, rfl, Nat.le_refl _, by simp⟩
    · obtain ⟨p, hp, h1, h2, h3, h4⟩ := mem_ents r (i + 1) h
      exact ⟨p, by simp [hp], h1, h2, by omega, by simp; omega⟩
theorem born_ents : ∀ (M : MS) (i : Nat), ((entsFrom M i).map (·.born)).Nodup
  | [], _ => by simp [entsFrom]
  | q :: r, i => by
    simp only [entsFrom, List.map_cons, List.nodup_cons, List.mem_map, not_exists, not_and]
    refine ⟨fun e he hb => ?_, born_ents r (i + 1)⟩
    obtain ⟨_, _, _, _, h3, _⟩ := mem_ents r (i + 1) he
    omega
theorem keys_ents : ∀ (M : MS) (i : Nat), (entsFrom M i).map (·.key) = M.map fun p => Value.string p.1
  | [], _ => rfl
  | q :: r, i => by simp [entsFrom, keys_ents r (i + 1)]
theorem rd_ent {p : ByteArray × S49} (h : p.1.size ≤ 1000000000) {e : MapEntry} (hk : e.key = .string p.1) : Go.WideElems.rd Try.prog 9 Rc e = some (.string p.1.data.toList, .lit (.bool true)) := by
  have := Go.WideMaps.keyOf_string_mk (P := Try.prog) (k := 9) under9 (s := p.1) (by unfold maxLen; omega)
  unfold Go.WideElems.rd
  rw [hk, this]
  rfl
theorem rg_ent (p : ByteArray × S49) (h : p.1.size ≤ 1000000000) (v : Value) (i : Nat) : Go.WideElems.rg Try.prog 9 Rc { key := .string p.1, val := v, born := i } = (.string p.1.data.toList, .lit (.bool true)) := Go.WideElems.rg_of (rd_ent h rfl)
theorem owns (hB : w.heap[g]? = some (mobj M)) (hs : ∀ p ∈ M, p.1.size ≤ 1000000000) (hn : (M.map Prod.fst).Nodup) (hl : M.length ≤ 1000000000) : w.ownsMap Try.prog 9 Rc g M.length (mdat M) := by
  refine ⟨_, _, hB, ⟨by simp [length_ents, maxLen]; omega, ⟨fun e he => ?_, by simpa using born_ents M 0, ?_⟩, fun e he => ?_⟩, by simp [length_ents], by simp [mdat]⟩
  · obtain ⟨p, _, _, _, _, h4⟩ := mem_ents M 0 (by simpa using he)
    omega
  · rw [List.toList_toArray, keys_ents]
    refine List.pairwise_map.2 ((List.pairwise_map.1 hn).imp fun {p q} h e => h ?_)
    simpa using e
  · obtain ⟨p, hp, h1, _⟩ := mem_ents M 0 (by simpa using he)
    exact ⟨_, rd_ent (hs p hp) h1⟩
theorem keys_perm (hs : ∀ p ∈ M, p.1.size ≤ 1000000000) : (strKeys (mdat M)).Perm (keyL M) := by
  unfold mdat strKeys
  refine ((sorted_perm _).map _).trans ?_
  have : ∀ (L : MS) (i : Nat), (∀ p ∈ L, p.1.size ≤ 1000000000) → ((entsFrom L i).map (Go.WideElems.rg Try.prog 9 Rc)).map (fun p => strOf p.1) = keyL L := by
    intro L
    induction L with
    | nil => intro i _; rfl
    | cons q r ih =>
      intro i h
      have hq : q.1.size ≤ 1000000000 := h q List.mem_cons_self
      have hr := rg_ent q hq (mval q.2) i
      simp only [entsFrom, List.map_cons, keyL, hr]
      rw [ih (i + 1) (fun p hp => h p (List.mem_cons_of_mem _ hp))]
      rfl
  rw [this M 0 hs]
theorem sorted_len (l : List (List UInt8)) : (sorted l).length = l.length := by simp [sorted]
end
end Go.Proofs.Ytdbomnhdpniigaa.Mp
