/- sort.Strings by the shelf's contract, laid at this program; the collected keys, sorted, as a row of the call's own. No condition. -/
import Derived.Shelf.Sort.Plain
import Derived.Test.YtdbomnhdpniigaaMp
namespace Go.Proofs
theorem Try.lf_ {α : Type} {a : Option α} {b c : α} (h : a = some b) (e : b = c) : a = some c := h.trans (congrArg some e)
def Try.lays192_ren : Go.Shelf.Ren := ⟨fun | 192 => 78 | 190 => 104 | 125 => 94 | 258 => 135 | 128 => 122 | 129 => 123 | 302 => 144 | 303 => 145 | 304 => 146 | 305 => 147 | 306 => 148 | 307 => 149 | 308 => 150 | 309 => 151 | 310 => 152 | 333 => 154 | 329 => 155 | 330 => 156 | 334 => 157 | 335 => 158 | 336 => 159 | 344 => 160 | n => n, fun | 31 => 109 | 0 => 0 | 9 => 9 | 3 => 3 | 46 => 128 | 51 => 160 | 53 => 162 | 4 => 4 | 183 => 186 | 182 => 185 | 131 => 114 | 5 => 5 | 218 => 195 | 222 => 179 | 228 => 198 | 229 => 193 | n => n, fun | n => n⟩
theorem Try.lays192 : Go.Proofs.Lays.n192 Try.prog Try.lays192_ren := {
 mixed := by kernel_rfl,
 f125 := Try.lf_ Try.func94 (by kernel_rfl),
 f128 := Try.lf_ Try.func122 (by kernel_rfl),
 f129 := Try.lf_ Try.func123 (by kernel_rfl),
 f190 := Try.lf_ Try.func104 (by kernel_rfl),
 f192 := Try.lf_ Try.func78 (by kernel_rfl),
 f258 := Try.lf_ Try.func135 (by kernel_rfl),
 f302 := Try.lf_ Try.func144 (by kernel_rfl),
 f303 := Try.lf_ Try.func145 (by kernel_rfl),
 f304 := Try.lf_ Try.func146 (by kernel_rfl),
 f305 := Try.lf_ Try.func147 (by kernel_rfl),
 f306 := Try.lf_ Try.func148 (by kernel_rfl),
 f307 := Try.lf_ Try.func149 (by kernel_rfl),
 f308 := Try.lf_ Try.func150 (by kernel_rfl),
 f309 := Try.lf_ Try.func151 (by kernel_rfl),
 f310 := Try.lf_ Try.func152 (by kernel_rfl),
 f329 := Try.lf_ Try.func155 (by kernel_rfl),
 f330 := Try.lf_ Try.func156 (by kernel_rfl),
 f333 := Try.lf_ Try.func154 (by kernel_rfl),
 f334 := Try.lf_ Try.func157 (by kernel_rfl),
 f335 := Try.lf_ Try.func158 (by kernel_rfl),
 f336 := Try.lf_ Try.func159 (by kernel_rfl),
 f344 := Try.lf_ Try.func160 (by kernel_rfl),
 t0 := Try.underlying0,
 a0 := Try.isAgg0,
 z0 := Try.sizeOf0,
 v0 := Try.zeroValue0,
 t3 := Try.underlying3,
 a3 := Try.isAgg3,
 z3 := Try.sizeOf3,
 v3 := Try.zeroValue3,
 t4 := Try.underlying4,
 a4 := Try.isAgg4,
 z4 := Try.sizeOf4,
 v4 := Try.zeroValue4,
 t5 := Try.underlying5,
 a5 := Try.isAgg5,
 z5 := Try.sizeOf5,
 v5 := Try.zeroValue5,
 t9 := Try.underlying9,
 a9 := Try.isAgg9,
 z9 := Try.sizeOf9,
 v9 := Try.zeroValue9,
 t31 := Try.underlying109,
 a31 := Try.isAgg109,
 z31 := Try.sizeOf109,
 v31 := Try.zeroValue109,
 t46 := Try.underlying128,
 a46 := Try.isAgg128,
 z46 := Try.sizeOf128,
 v46 := Try.zeroValue128,
 t51 := Try.underlying160,
 a51 := Try.isAgg160,
 z51 := Try.sizeOf160,
 v51 := Try.zeroValue160,
 t53 := Try.underlying162,
 a53 := Try.isAgg162,
 z53 := Try.sizeOf162,
 v53 := Try.zeroValue162,
 t131 := Try.underlying114,
 a131 := Try.isAgg114,
 z131 := Try.sizeOf114,
 v131 := Try.zeroValue114,
 t182 := Try.underlying185,
 a182 := Try.isAgg185,
 z182 := Try.sizeOf185,
 v182 := Try.zeroValue185,
 t183 := Try.underlying186,
 a183 := Try.isAgg186,
 z183 := Try.sizeOf186,
 v183 := Try.zeroValue186,
 t218 := Try.underlying195,
 a218 := Try.isAgg195,
 z218 := Try.sizeOf195,
 v218 := Try.zeroValue195,
 t222 := Try.underlying179,
 a222 := Try.isAgg179,
 z222 := Try.sizeOf179,
 v222 := Try.zeroValue179,
 t228 := Try.underlying198,
 a228 := Try.isAgg198,
 z228 := Try.sizeOf198,
 v228 := Try.zeroValue198,
 t229 := Try.underlying193,
 a229 := Try.isAgg193,
 z229 := Try.sizeOf193,
 v229 := Try.zeroValue193 }
end Go.Proofs
namespace Go.Proofs.Ytdbomnhdpniigaa.Mp
open Go.RowKit Go.Proofs.Ytdbomnhdpniigaa.PA Go.Proofs.YtdbomnhdpniigaaW.PrintWords Go.Proofs.YtdbomnhdpniigaaW.PrintLast Go.Proofs.YtdbomnhdpniigaaW.PrintMore
open Go.MapKept Go.WideElems Go.WideShapes Go.ChangeMaps
section
variable {w : World} {g : Nat} {M : MS} {ops : Array Oper} {rest : List Oper} {o : Oper} {a : Act} {Q : Exit → Act → World → Prop}
/-- v, ok := m[s], the struct's cells written out. -/
theorem lookA_event (hgd : o.guard = none) (m x : Operand) (hop : o.op = .lookup 113 m x true) (s : ByteArray) (hm : a.eval m = .map (some g)) (hx : a.eval x = .string s) (hB : w.heap[g]? = some (mobj M))
    (h : wpList Try.prog ops Q rest (a.put o.dst (.tuple #[.agg #[.string (mget M s).f0, .string (mget M s).f1, .int .i64 (mget M s).f2, .int .i64 (mget M s).f3, .int .i64 (mget M s).f4], .bool (mhas M s)])) w) : wpList Try.prog ops Q (o :: rest) a w := look_event hgd m x hop s hm hx hB h
theorem getA_event (hgd : o.guard = none) (m x : Operand) (hop : o.op = .lookup 113 m x false) (s : ByteArray) (hm : a.eval m = .map (some g)) (hx : a.eval x = .string s) (hB : w.heap[g]? = some (mobj M))
    (h : wpList Try.prog ops Q rest (a.put o.dst (.agg #[.string (mget M s).f0, .string (mget M s).f1, .int .i64 (mget M s).f2, .int .i64 (mget M s).f3, .int .i64 (mget M s).f4])) w) : wpList Try.prog ops Q (o :: rest) a w := get_event hgd m x hop s hm hx hB h
theorem updA_event (hgd : o.guard = none) (m x v : Operand) (hop : o.op = .mapUpdate 113 m x v) (hd : o.dst = none) (s : ByteArray) (c : S49) (hm : a.eval m = .map (some g)) (hx : a.eval x = .string s) (hv : a.eval v = .agg #[.string c.f0, .string c.f1, .int .i64 c.f2, .int .i64 c.f3, .int .i64 c.f4]) (hB : w.heap[g]? = some (mobj M))
    (h : ∀ w1 : World, w1.heap[g]? = some (mobj (mput M s c)) → w.grownBy w1 (some g) → wpList Try.prog ops Q rest a w1) : wpList Try.prog ops Q (o :: rest) a w := upd_event hgd m x v hop hd s c hm hx hv hB h
end
theorem row_ne {α : Type} {d : Kd α} {w : World} {e base g : Nat} {ok : Nat → Prop} {v : Value} {xs : List α} {M : MS} (h : d.R e w base ok v xs) (hB : w.heap[g]? = some (mobj M)) : some g ≠ v.ownBlock := by
  intro e1
  obtain ⟨_, inner, ho, _⟩ := h
  obtain ⟨cells, hc⟩ := own_typed ho g e1.symm
  rw [hB] at hc
  cases hc
theorem size_mdat (M : MS) : Go.Maps.size (mdat M) = M.length := by simp [mdat, Go.Maps.size, length_sorted, length_ents]
theorem sort78 {w : World} {g cap : Nat} {ss : List (List UInt8)} (hH : Go.Sort.Holds encStr w g 0 ss.toArray) (hg : g < w.heap.size) (hl : ss.length < 4611686018427387904) :
    Calls Try.prog 78 #[.slice (some ⟨g, 0, none⟩) ss.length cap] w fun e w' => e = .returned (.tuple #[]) ∧ ∃ n os, w' = Go.Sort.grow (Go.Sort.putRow encStr (Go.Sort.ahead w n) g 0 (ss.mergeSort leB).toArray) os :=
  Any.sort_Strings Try.lays192 g 0 cap ss w hH hg hl
theorem own_sorted {w : World} {base : Nat} {v : Value} {M : MS} {ss : List (List UInt8)} {t : List ByteArray} (hp : ss.Perm (keyL M)) (ht : t = sorted (keyL M)) (ho : w.ownsRow base 9 1 v ss.length ((ss.mergeSort leB).map encStr)) : Kd.string.R 9 w base (fun _ => True) v t := by
  have hs : t = (ss.mergeSort leB).map fun x => ⟨x.toArray⟩ := by rw [ht, sorted, mergeSort_of_perm hp]
  have hl : t.length = ss.length := by simp [hs]
  refine Kd.R_of_own (h1 := fun _ => rfl) ?_ (fun _ _ => trivial)
  have : encs Value.string t = (ss.mergeSort leB).map encStr := by rw [hs]; simp [encs, encStr]
  rw [this, hl]
  exact ho
end Go.Proofs.Ytdbomnhdpniigaa.Mp
