/- Walks of the session's methods. No condition beside what the Lean functions say. -/
import Derived.Test.YtjelgpmhbaiipaaGreatDoorFZLb5
import Derived.Test.YtjelgpmhbaiipaaGreatDoorFZCx1
import Derived.Test.YtjelgpmhbaiipaaGreatDoorFZCv2
import Derived.Test.YtjelgpmhbaiipaaGreatDoorFZCz6
import Derived.Test.YtjelgpmhbaiipaaGreatDoorFZCm7
namespace Go.Proofs.YtjelgpmhbaiipaaGreatDoor.PA
open Go.RowKit Go.Proofs.YtjelgpmhbaiipaaGreatDoorW.PrintWords Go.Proofs.YtjelgpmhbaiipaaGreatDoorW.PrintLast Go.Proofs.YtjelgpmhbaiipaaGreatDoorW.PrintMore Go.Proofs.YtjelgpmhbaiipaaGreatDoor.Z
attribute [local go_sem] max2_int min2_int max_two min_two max_three min_three max_four min_four
set_option linter.unusedVariables false
set_option linter.unusedSimpArgs false
abbrev Sx := List S33 × ByteArray × List S46
def St (T : Nat) (w : World) (base p : Nat) (L : List S33) (nm : ByteArray) (B : List S46) : Prop :=
 ∃ vT vB : Value, w.heap[p]? = some (.cells #[vT, .string nm, vB] T (0, 0)) ∧ Kd.S k33 33 w base (fun k_ => some k_ ≠ vB.ownBlock) vT L ∧ Kd.R k46 46 w base (fun _ => True) vB B ∧ base ≤ p
namespace Sn
theorem sT {w W : World} {base : Nat} {ok : Nat → Prop} {v : Value} {L : List S33} (h : Aside0 (Kd.S k33 33 w base ok v L)) (hb : Below w.heap.size w W) : Aside0 (Kd.S k33 33 W base ok v L) := ⟨Kd.S_below h.out hb⟩
theorem sH {w W : World} {base : Nat} {ok : Nat → Prop} {v : Value} {L : List S46} (h : Aside0 (Kd.R k46 46 w base ok v L)) (hb : Below w.heap.size w W) : Aside0 (Kd.R k46 46 W base ok v L) := ⟨Kd.R_below h.out hb⟩
theorem sC {α : Type} {d : Kd α} {w W : World} {A : Option Addr} {n : Nat} {xs : List α} (h : Aside0 (d.C w A n xs)) (hb : Below w.heap.size w W) : Aside0 (d.C W A n xs) := ⟨Kd.C_below h.out hb⟩
theorem drT {w : World} {base : Nat} {ok : Nat → Prop} {v : Value} {L : List S33} (h : Aside0 (Kd.S k33 33 w base ok v L)) : Aside0 (Kd.S k33 33 w.drew base ok v L) := ⟨Kd.S_drew h.out⟩
theorem drH {w : World} {base : Nat} {ok : Nat → Prop} {v : Value} {L : List S46} (h : Aside0 (Kd.R k46 46 w base ok v L)) : Aside0 (Kd.R k46 46 w.drew base ok v L) := ⟨Kd.R_drew h.out⟩
theorem drC {α : Type} {d : Kd α} {w : World} {A : Option Addr} {n : Nat} {xs : List α} (h : Aside0 (d.C w A n xs)) : Aside0 (d.C w.drew A n xs) := ⟨Kd.C_drew h.out⟩
theorem setT {T : Nat} {cs : Array Value} {w : World} {p j base : Nat} {ok : Nat → Prop} {v u : Value} {L : List S33} (h : Kd.S k33 33 w base ok v L) (hB : w.heap[p]? = some (.cells cs T (0, 0))) (ht : ∀ q, q ∈ 33 :: (k33).E → q ≠ T) : Kd.S k33 33 (w.setCell ⟨p, j, none⟩ u) base ok v L := Kd.S_set h hB ht j u
theorem setH {T : Nat} {cs : Array Value} {w : World} {p j base : Nat} {ok : Nat → Prop} {v u : Value} {L : List S46} (h : Kd.R k46 46 w base ok v L) (hB : w.heap[p]? = some (.cells cs T (0, 0))) (ht : ∀ q, q ∈ 46 :: (k46).E → q ≠ T) : Kd.R k46 46 (w.setCell ⟨p, j, none⟩ u) base ok v L := Kd.R_set h hB ht j u
theorem qS {w W : World} {base : Nat} {ok : Nat → Prop} {v : Value} {L : List S33} (h : Aside0 (Kd.S k33 33 w base ok v L)) (t : Kd.S k33 33 w base ok v L → Kd.S k33 33 W base ok v L := by
  (intro hq_; (with_reducible repeat (first | apply Kd.S_alloc | apply Kd.S_drewN | apply Kd.S_drew)); exact hq_)) : Kd.S k33 33 W base ok v L := t h.out
theorem s0 {w : World} {ad : Addr} {x : Option Value} (h : w.cell? (ad.add (Int.toNat 0)) = x) : w.cell? ad = x := by
 have e : ad.add (Int.toNat 0) = ad := by cases ad with | mk b o s => cases s <;> simp [Addr.add]
 rwa [e] at h
theorem s1 {w : World} {ad : Addr} {x : Option Value} {i : Nat} {j : Int} (h : w.cell? (ad.add j.toNat) = x) (e : j.toNat = i + 1 := by rfl) : w.cell? ⟨ad.block, ad.off + (i + 1), none⟩ = x := by
 have e2 : ad.add (i + 1) = ⟨ad.block, ad.off + (i + 1), none⟩ := by simp [Addr.add]
 rwa [e, e2] at h
theorem mk {T : Nat} {w : World} {base p : Nat} {L : List S33} {nm : ByteArray} {B : List S46} {vT vB : Value} (h : w.heap[p]? = some (.cells #[vT, .string nm, vB] T (0, 0))) (hT : Kd.S k33 33 w base (fun k_ => some k_ ≠ vB.ownBlock) vT L) (hB : Kd.R k46 46 w base (fun _ => True) vB B) (hp : base ≤ p) : St T w base p L nm B := ⟨vT, vB, h, hT, hB, hp⟩
theorem stB {T : Nat} {w W : World} {base p : Nat} {L : List S33} {nm : ByteArray} {B : List S46} (h : St T w base p L nm B) (hb : Below w.heap.size w W) : St T W base p L nm B := by
 obtain ⟨vT, vB, h1, h2, h3, h4⟩ := h
 exact ⟨vT, vB, (hb.block p (blk_lt h1)).trans h1, Kd.S_below h2 hb, Kd.R_below h3 hb, h4⟩
theorem cb {w W : World} {x : Addr} {v : Value} (hb : Below w.heap.size w W) (h : w.cell? x = some v) : W.cell? x = some v := (hb.cell (World.block_lt_of_cell? w _ h)).trans h
theorem zc3 {w : World} {g : Nat} {t : TypeId} {a b c : Value} (h : Aside0 (w.heap[g]? = some (.cells #[a, b, c] t (0, 0)))) : w.cell? ⟨g, 0, none⟩ = some a ∧ w.cell? ⟨g, 1, none⟩ = some b ∧ w.cell? ⟨g, 2, none⟩ = some c ∧ w.frozen? ⟨g, 0, none⟩ = false ∧ w.frozen? ⟨g, 1, none⟩ = false ∧ w.frozen? ⟨g, 2, none⟩ = false := ⟨blk_cell h.out 0, blk_cell h.out 1, blk_cell h.out 2, blk_frozen h.out 0, blk_frozen h.out 1, blk_frozen h.out 2⟩
theorem qC {α : Type} {d : Kd α} {w W : World} {A : Option Addr} {n : Nat} {xs : List α} (h : Aside0 (d.C w A n xs)) (t : d.C w A n xs → d.C W A n xs := by
  (intro hq_; (with_reducible repeat (first | apply Kd.C_alloc | apply Kd.C_drewN | apply Kd.C_drew)); exact hq_)) : d.C W A n xs := t h.out
theorem qR {w W : World} {base : Nat} {ok : Nat → Prop} {v : Value} {L : List S46} (h : Aside0 (Kd.R k46 46 w base ok v L)) (t : Kd.R k46 46 w base ok v L → Kd.R k46 46 W base ok v L := by
  (intro hq_; (with_reducible repeat (first | apply Kd.R_alloc | apply Kd.R_drewN | apply Kd.R_drew)); exact hq_)) : Kd.R k46 46 W base ok v L := t h.out
theorem bT {w W W' : World} {base : Nat} {ok : Nat → Prop} {v : Value} {L : List S33} (h : Aside0 (Kd.S k33 33 w base ok v L)) (hb : Below W.heap.size W W') (t : Kd.S k33 33 w base ok v L → Kd.S k33 33 W base ok v L := by
  (intro hq_; (with_reducible repeat (first | apply Kd.S_alloc | apply Kd.S_drewN | apply Kd.S_drew)); exact hq_)) : Aside0 (Kd.S k33 33 W' base ok v L) := ⟨Kd.S_below (t h.out) hb⟩
theorem bC {α : Type} {d : Kd α} {w W W' : World} {A : Option Addr} {n : Nat} {xs : List α} (h : Aside0 (d.C w A n xs)) (hb : Below W.heap.size W W') (t : d.C w A n xs → d.C W A n xs := by
  (intro hq_; (with_reducible repeat (first | apply Kd.C_alloc | apply Kd.C_drewN | apply Kd.C_drew)); exact hq_)) : Aside0 (d.C W' A n xs) := ⟨Kd.C_below (t h.out) hb⟩
theorem bH {w W W' : World} {base : Nat} {ok : Nat → Prop} {v : Value} {L : List S46} (h : Aside0 (Kd.R k46 46 w base ok v L)) (hb : Below W.heap.size W W') (t : Kd.R k46 46 w base ok v L → Kd.R k46 46 W base ok v L := by
  (intro hq_; (with_reducible repeat (first | apply Kd.R_alloc | apply Kd.R_drewN | apply Kd.R_drew)); exact hq_)) : Aside0 (Kd.R k46 46 W' base ok v L) := ⟨Kd.R_below (t h.out) hb⟩
theorem op {T : Nat} {w : World} {base p : Nat} {L : List S33} {nm : ByteArray} {B : List S46} (h : St T w base p L nm B) : ∃ A c Ab cb, Aside0 (w.heap[p]? = some (.cells #[.slice A L.length c, .string nm, .slice Ab B.length cb] T (0, 0))) ∧ Aside0 (Kd.S k33 33 w base (fun k_ => some k_ ≠ (Value.slice Ab B.length cb).ownBlock) (.slice A L.length c) L) ∧ Aside0 (Kd.R k46 46 w base (fun _ => True) (.slice Ab B.length cb) B) ∧ Aside0 (Kd.C k33 w A L.length L) ∧ Aside0 (Kd.C k46 w Ab B.length B) ∧ Aside0 (L.length ≤ c) ∧ Aside0 (B.length ≤ cb) ∧ Aside0 (base ≤ p) := by
 obtain ⟨vT, vB, hBK, hT, hH, hp⟩ := h
 obtain ⟨A, c, rfl, hlc, hC⟩ := Kd.S_reads hT
 obtain ⟨Ab, cb, rfl, hlb, hCb⟩ := Kd.R_reads hH
 exact ⟨A, c, Ab, cb, ⟨hBK⟩, ⟨hT⟩, ⟨hH⟩, ⟨hC⟩, ⟨hCb⟩, ⟨hlc⟩, ⟨hlb⟩, ⟨hp⟩⟩
theorem sV {α : Type} {d : Kd α} {e base base' : Nat} {w W : World} {ok : Nat → Prop} {v : Value} {xs : List α} (h : Aside0 (Kd.V d e w base ok v xs)) (hb : Below w.heap.size w W) : Aside0 (Kd.V d e W base' ok v xs) := ⟨Kd.V_below h.out hb⟩
theorem drV {α : Type} {d : Kd α} {e base base' : Nat} {w : World} {ok : Nat → Prop} {v : Value} {xs : List α} (h : Aside0 (Kd.V d e w base ok v xs)) : Aside0 (Kd.V d e w.drew base' ok v xs) := ⟨Kd.V_drew h.out⟩
end Sn
end Go.Proofs.YtjelgpmhbaiipaaGreatDoor.PA
