/- Functions of Go's library by the shelf's contracts, laid at this program, in the form that the walks meet: strings.Split, strings.Join, strconv.Itoa, strconv.Atoi. Each says its bounds in its own '.f'. -/
import Derived.Ground.NamesProg
import Derived.Shelf.Lay
import Derived.Shelf.Strings.Split
import Derived.Shelf.Strings.OnBuilder
import Derived.Shelf.Strconv.Itoa3
import Derived.Shelf.Strconv.Atoi
import Derived.WalkSmall
import Derived.Test.YtjelgpmhbaiipaaGreatDoorLPAs4
namespace Go.Proofs
open Go.Shelf Go.RowKit
shelf_lay Lays.n146 Nm 146 at Tryz as Tryz.lSplit
shelf_lay Lays.n156 Nm 156 at Tryz as Tryz.lJoin
shelf_lay LaysM.n171 Nm 171 at Tryz as Tryz.lItoa
shelf_lay Lays.n172 Nm 172 at Tryz as Tryz.lAtoi
theorem Tryz.lExtra : Builder.Extra Tryz.prog Tryz.lJoin_ren where
  sizeBuilder := by kernel_rfl
  liesBuilder := by kernel_rfl
  t5 := by kernel_rfl
  a5 := fun _ => by kernel_rfl
  z5 := fun _ => by kernel_rfl
  v5 := fun _ => by kernel_rfl
  infoByte := by kernel_rfl
  cellsByte := by kernel_rfl
  sizeByte := by kernel_rfl
  neB5 := by decide
end Go.Proofs
namespace Go.Proofs.YtjelgpmhbaiipaaGreatDoor.PA.Lb
open Go.Shelf Go.RowKit Go.Proofs.YtjelgpmhbaiipaaGreatDoor.PA Go.Proofs.YtjelgpmhbaiipaaGreatDoorW.PrintWords Go.Proofs.YtjelgpmhbaiipaaGreatDoorW.PrintLast Go.Proofs.YtjelgpmhbaiipaaGreatDoorW.PrintMore
set_option linter.unusedVariables false
set_option linter.unusedSimpArgs false
def WG (w : World) : Prop := Lib.TabIs Tryz.prog w "internal/strconv.uint64pow10" .u64 Lib.pow10Tab ∧ ∃ m, w.cell? ⟨0, 0, none⟩ = some (.int .i64 m)
theorem wg_below {w W : World} (h : WG w) (hb : Below w.heap.size w W) : WG W := by
  obtain ⟨h1, m, h2⟩ := h
  refine ⟨?_, m, (hb.cell (World.block_lt_of_cell? w _ h2)).trans h2⟩
  have hg : Tryz.prog.globalNamed "internal/strconv.uint64pow10" = some 5 := by kernel_rfl
  refine var?_below hb hg ?_ h1
  unfold Lib.TabIs World.var? at h1
  rw [hg] at h1
  simp only [Option.bind_some] at h1
  cases hx : w.heap[(5 : Nat)]? with
  | none => rw [hx] at h1; cases h1
  | some o => exact (Array.getElem?_eq_some_iff.1 hx).1
theorem wg {w W : World} (h : Aside0 (WG w)) (hb : Below w.heap.size w W := by
    repeat (first | (with_reducible first | exact HB.out | apply below_alloc | apply pw_below_drewN | apply below_drew1 | refine below_set ?_ (Aside0.out (by assumption)) | refine below_set ?_ (by assumption)) | exact HB.out)) : WG W := wg_below h.out hb
theorem below_grow {w : World} (k : Nat) (os : Array Obj) : Below w.heap.size w (Go.Sort.grow (w.drewN k) os) := by
  have h : (w.drewN k).grownBy (Go.Sort.grow (w.drewN k) os) none := ⟨rfl, rfl, rfl, by simp [Go.Sort.grow], fun i hi _ => Go.Sort.heap_grow_old _ _ hi⟩
  exact (pw_below_drewN (Below.refl _ _) k).grown h (Nat.le_refl _) (fun j hj => by cases hj)
def itoa.f (n : Int) : Option ByteArray := if -9223372036854775808 ≤ n ∧ n ≤ 9223372036854775807 then some ⟨(Lib.itoa n).toArray⟩ else none
theorem itoa.calls (n : Int) (r : ByteArray) (w : World) (hG : WG w) (h : itoa.f n = some r) : Calls Tryz.prog 41 #[.int .i64 n] w fun e w' => e = .returned (.string r) ∧ Below w.heap.size w w' := by
  unfold itoa.f at h
  split at h
  · rename_i hc
    obtain rfl := Option.some.inj h
    exact (Any.strconv_Itoa Tryz.lItoa n hc.1 hc.2 w hG.1).mono fun e w' ⟨he, k, os, hw⟩ => ⟨he, hw ▸ below_grow k os⟩
  · cases h
def atoi.f (s : ByteArray) : Option Int := if s.size ≤ 18 then Lib.atoi s.data.toList else none
theorem below_bytes (w : World) (e : TypeId) (t : ByteArray) : Below w.heap.size w (Lib.bytesWorld w e t) := by
  have h : w.grownBy (Lib.bytesWorld w e t) none := ⟨rfl, rfl, rfl, by rw [Lib.bytesWorld_size]; omega, fun i hi _ => Lib.bytesWorld_at_old w e t i hi⟩
  exact (Below.refl _ _).grown h (Nat.le_refl _) (fun j hj => by cases hj)
theorem atoi.calls (s : ByteArray) (r : Int) (w : World) (h : atoi.f s = some r) : Calls Tryz.prog 63 #[.string s] w fun e w' => e = .returned (.tuple #[.int .i64 r, .nilIface]) ∧ Below w.heap.size w w' := by
  unfold atoi.f at h
  split at h
  · rename_i hc
    exact (Any.strconv_Atoi Tryz.lAtoi s r hc h w).mono fun e w' ⟨he, t, hw⟩ => ⟨he, hw ▸ below_bytes _ _ _⟩
  · cases h
def join.f (l : List ByteArray) (sep : ByteArray) : Option ByteArray := if l.length ≤ 140737488355328 ∧ (Lib.join (l.map (·.data.toList)) sep.data.toList).length ≤ 140737488355328 then some ⟨(Lib.join (l.map (·.data.toList)) sep.data.toList).toArray⟩ else none
theorem cell_spot {w : World} {a : Addr} {v : Value} (h : w.cell? a = some v) : a = ⟨a.block, a.off, none⟩ := by
  unfold World.cell? at h
  split at h
  · split at h
    · cases h
    · rename_i hs
      cases a with
      | mk b o s => cases s with
        | none => rfl
        | some x => simp at hs
  · cases h
theorem join.calls (A : Option Addr) (c : Nat) (l : List ByteArray) (sep r : ByteArray) (w : World) (hr0 : Kd.C Kd.string w A l.length l) (hc0 : l.length ≤ c) (h : join.f l sep = some r) : Calls Tryz.prog 59 #[.slice A l.length c, .string sep] w fun e w' => e = .returned (.string r) ∧ Below w.heap.size w w' := by
  unfold join.f at h
  split at h
  · rename_i hc
    obtain rfl := Option.some.inj h
    match l, hr0, hc0, hc with
    | [], _, _, _ =>
      exact (Any.strings_Join_none Tryz.lJoin Tryz.lExtra A c sep w).mono fun e w' ⟨he, hw⟩ => ⟨he, hw ▸ Below.refl _ _⟩
    | x :: l, hr0, hc0, hc =>
      obtain ⟨ad, hA, h0⟩ := Kd.at_string hr0 0 (Int.le_refl _) (by simp)
      subst hA
      have had : ad = ⟨ad.block, ad.off, none⟩ := by
        have := cell_spot h0
        simp only [Addr.add, Int.toNat_zero, Nat.add_zero] at this
        cases ad with
        | mk b o s => simpa using this
      have hcells : ∀ (j : Nat) y, (x :: l)[j]? = some y → w.cell? ⟨ad.block, ad.off + j, none⟩ = some (.string y) := by
        intro j y hj
        obtain ⟨hl, he⟩ := List.getElem?_eq_some_iff.1 hj
        obtain ⟨ad', hA', h1⟩ := Kd.at_string hr0 (j : Int) (by omega) (by omega)
        obtain rfl := Option.some.inj hA'
        have e1 : rdOf ByteArray.empty (x :: l) (j : Int) = y := by
          unfold rdOf
          simp [List.getD, hj]
        rw [e1, had] at h1
        by_cases hj0 : j = 0
        · subst hj0
          simpa [Addr.add] using h1
        · simpa [Addr.add, hj0] using h1
      rw [had]
      exact Any.strings_Join Tryz.lJoin Tryz.lExtra ad.block ad.off c (x :: l) sep w hcells (by have := World.block_lt_of_cell? w _ h0; simpa [Addr.add] using this) hc.1 hc0 hc.2
  · cases h
def split.f (s sep : ByteArray) : Option (List ByteArray) := if s.size < 4294967281 ∧ 1 ≤ sep.size then some (Lib.splitB sep 0 (Lib.countB s sep) s) else none
theorem split.calls (s sep : ByteArray) (r : List ByteArray) (w : World) (hG : WG w) (h : split.f s sep = some r) : Calls Tryz.prog 10 #[.string s, .string sep] w fun e w' => ∃ v0_ : Value, e = .returned v0_ ∧ Kd.R Kd.string 9 w' w.heap.size (fun _ => True) v0_ r ∧ Below w.heap.size w w' := by
  unfold split.f at h
  split at h
  · rename_i hc
    obtain rfl := Option.some.inj h
    obtain ⟨_, m, hm⟩ := hG
    have hlen := Lib.splitB_all sep hc.2 0 _ s rfl
    refine (Any.strings_Split Tryz.lSplit (by kernel_rfl) s sep m w hc.1 hm hc.2).mono fun e w' ⟨he, hw⟩ => ?_
    subst hw
    refine ⟨_, he, Kd.R_of_own (h1 := fun _ => rfl) ?_ (fun _ _ => trivial), below_alloc (Below.refl _ _) _⟩
    have h2 := World.ownsRow_lit (base := w.heap.size) (e := 9) (size := 1) w ((Lib.splitB sep 0 (Lib.countB s sep) s).map Value.string).toArray (Lib.splitB sep 0 (Lib.countB s sep) s).length (Nat.le_refl _) (by rw [hlen]; have := Lib.countB_le sep hc.2 s.size s (Nat.le_refl _); unfold maxLen; omega) (by simp)
    have h3 : (w.alloc (.cells ((Lib.splitB sep 0 (Lib.countB s sep) s).map Value.string).toArray 9)).ownsRow w.heap.size 9 1 (.slice (some ⟨w.heap.size, 0, none⟩) (Lib.splitB sep 0 (Lib.countB s sep) s).length (Lib.splitB sep 0 (Lib.countB s sep) s).length) (Lib.splitB sep 0 (Lib.countB s sep) s).length ((Lib.splitB sep 0 (Lib.countB s sep) s).map Value.string) := by simpa using h2
    have hl2 : (Lib.splitB sep 0 (Lib.countB s sep) s).length = Lib.countB s sep + 1 := hlen
    rw [hl2] at h3 ⊢
    exact h3
  · cases h
theorem gd {P : Program} {ops : Array Oper} {oi : Oper} {a : Act} {w : World} {Q : Exit → Act → World → Prop} {N : Option Tmp} {K : Act → World → Prop} {f : FuncId} {fn : Func} {c : Operand} {as_ : Array Operand} {ts : Array TypeId} (hf : P.funcs[f]? = some fn) (args : Array Value)
    (h : Calls P f args w fun e w' => ∃ v, e = .returned v ∧ K (a.put N v) w') (hname : (fn.name == "runtime.NumGoroutine") = false := by kernel_rfl) (hb : fn.body.isSome = true := by rfl) (hw : Region.wanted oi (yielded ops a.tmps) = true := by rfl) (hN : oi.dst = N := by rfl) (hop : oi.op = .call { callee := .value c, args := as_, argTypes := ts } := by rfl) (hc : a.eval c = .func (.func f) #[] #[] := by rfl) (hargs : as_.map a.eval = args := by ((try simp only [List.map_toArray, List.map_cons, List.map_nil]); first | done | rfl)) :
    if Region.wanted oi (yielded ops a.tmps) = true then Oper.wp P oi a w K Q else K (a.put N undef) w := by
  refine call_ f args hw hN ?_ h
  have he := enters_ hf hname hb args w
  unfold execOp
  simp [hop, resolve, Deferred.ofValue, hc, invoke, hargs, he]
end Go.Proofs.YtjelgpmhbaiipaaGreatDoor.PA.Lb
