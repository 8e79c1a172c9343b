/- sort.Strings by the shelf's contract, laid at this program; the collected keys, sorted, as a row of the call's own. No condition. -/
import Derived.Shelf.Sort.Plain
import Derived.Shelf.Lay
import Derived.Test.YtdbomnhdpniigaaMp
namespace Go.Proofs
shelf_lay Lays.n192 Nm 192 at Try as Try.lays192
end Go.Proofs
namespace Go.Proofs.Ytdbomnhdpniigaa.Mp
open Go.RowKit Go.Proofs.Ytdbomnhdpniigaa.PA Go.Proofs.YtdbomnhdpniigaaW.PrintWords Go.Proofs.YtdbomnhdpniigaaW.PrintLast Go.Proofs.YtdbomnhdpniigaaW.PrintMore
open Go.MapKept Go.WideElems Go.WideShapes Go.ChangeMaps
section
variable {w : World} {g : Nat} {M : MS} {ops : Array Oper} {rest : List Oper} {o : Oper} {a : Act} {Q : Exit → Act → World → Prop}
/-- v, ok := m[s], the struct's cells written out. -/
theorem lookA_event (hgd : o.guard = none) (m x : Operand) (hop : o.op = .lookup 113 m x true) (s : ByteArray) (hm : a.eval m = .map (some g)) (hx : a.eval x = .string s) (hB : w.heap[g]? = some (mobj M))
    (h : wpList Try.prog ops Q rest (a.put o.dst (.tuple #[.agg #[.string (mget M s).f0, .string (mget M s).f1, .int .i64 (mget M s).f2, .int .i64 (mget M s).f3, .int .i64 (mget M s).f4], .bool (mhas M s)])) w) : wpList Try.prog ops Q (o :: rest) a w := look_event hgd m x hop s hm hx hB h
theorem getA_event (hgd : o.guard = none) (m x : Operand) (hop : o.op = .lookup 113 m x false) (s : ByteArray) (hm : a.eval m = .map (some g)) (hx : a.eval x = .string s) (hB : w.heap[g]? = some (mobj M))
    (h : wpList Try.prog ops Q rest (a.put o.dst (.agg #[.string (mget M s).f0, .string (mget M s).f1, .int .i64 (mget M s).f2, .int .i64 (mget M s).f3, .int .i64 (mget M s).f4])) w) : wpList Try.prog ops Q (o :: rest) a w := get_event hgd m x hop s hm hx hB h
theorem updA_event (hgd : o.guard = none) (m x v : Operand) (hop : o.op = .mapUpdate 113 m x v) (hd : o.dst = none) (s : ByteArray) (c : S49) (hm : a.eval m = .map (some g)) (hx : a.eval x = .string s) (hv : a.eval v = .agg #[.string c.f0, .string c.f1, .int .i64 c.f2, .int .i64 c.f3, .int .i64 c.f4]) (hB : w.heap[g]? = some (mobj M))
    (h : ∀ w1 : World, w1.heap[g]? = some (mobj (mput M s c)) → w.grownBy w1 (some g) → wpList Try.prog ops Q rest a w1) : wpList Try.prog ops Q (o :: rest) a w := upd_event hgd m x v hop hd s c hm hx hv hB h
end
theorem row_ne {α : Type} {d : Kd α} {w : World} {e base g : Nat} {ok : Nat → Prop} {v : Value} {xs : List α} {M : MS} (h : d.R e w base ok v xs) (hB : w.heap[g]? = some (mobj M)) : some g ≠ v.ownBlock := by
  intro e1
  obtain ⟨_, inner, ho, _⟩ := h
  obtain ⟨cells, hc⟩ := own_typed ho g e1.symm
  rw [hB] at hc
  cases hc
theorem size_mdat (M : MS) : Go.Maps.size (mdat M) = M.length := by simp [mdat, Go.Maps.size, length_sorted, length_ents]
theorem sort78 {w : World} {g cap : Nat} {ss : List (List UInt8)} (hH : Go.Sort.Holds encStr w g 0 ss.toArray) (hg : g < w.heap.size) (hl : ss.length < 4611686018427387904) :
    Calls Try.prog 78 #[.slice (some ⟨g, 0, none⟩) ss.length cap] w fun e w' => e = .returned (.tuple #[]) ∧ ∃ n os, w' = Go.Sort.grow (Go.Sort.putRow encStr (Go.Sort.ahead w n) g 0 (ss.mergeSort leB).toArray) os :=
  Any.sort_Strings Try.lays192 g 0 cap ss w hH hg hl
theorem own_sorted {w : World} {base : Nat} {v : Value} {M : MS} {ss : List (List UInt8)} {t : List ByteArray} (hp : ss.Perm (keyL M)) (ht : t = sorted (keyL M)) (ho : w.ownsRow base 9 1 v ss.length ((ss.mergeSort leB).map encStr)) : Kd.string.R 9 w base (fun _ => True) v t := by
  have hs : t = (ss.mergeSort leB).map fun x => ⟨x.toArray⟩ := by rw [ht, sorted, mergeSort_of_perm hp]
  have hl : t.length = ss.length := by simp [hs]
  refine Kd.R_of_own (h1 := fun _ => rfl) ?_ (fun _ _ => trivial)
  have : encs Value.string t = (ss.mergeSort leB).map encStr := by rw [hs]; simp [encs, encStr]
  rw [this, hl]
  exact ho
end Go.Proofs.Ytdbomnhdpniigaa.Mp
