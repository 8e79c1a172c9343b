/- What an argument that can be read is bounded by, kind by kind, for the law FnExactProbeAsk. No condition. -/
import Derived.Test.YtdbomnhdpniigaaPAs
namespace Go.Proofs.Ytdbomnhdpniigaa.PA
open Go.RowKit Go.Proofs.YtdbomnhdpniigaaW.PrintWords
def g_int (n : Int) : Prop := (Lit.int .i64 n).wf = true
def g_box (x : S121) : Prop := g_int x.f0 ∧ g_int x.f1 ∧ g_int x.f2 ∧ g_int x.f3 ∧ g_int x.f4 ∧ g_int x.f5
def g_str (s : ByteArray) : Prop := s.size ≤ maxLen
def g_boxes (l : List S121) : Prop := l.length ≤ maxLen ∧ ∀ x ∈ l, g_box x
def kk_tube : Kd (ByteArray × (List (S121))) := Kd.pair Kd.string (Kd.slice 121 k121)
def g_tube (p : ByteArray × (List (S121))) : Prop := g_str p.1 ∧ g_boxes p.2
def g_slot (x : S182) : Prop := g_int x.f0 ∧ g_int x.f1 ∧ g_int x.f2 ∧ g_int x.f3 ∧ g_str x.f4 ∧ g_int x.f5
def g_slots (l : List S182) : Prop := l.length ≤ maxLen ∧ ∀ x ∈ l, g_slot x
def g_cell (x : S147) : Prop := g_int x.f0 ∧ g_int x.f1 ∧ g_slots x.f2
def g_cells (l : List S147) : Prop := l.length ≤ maxLen ∧ ∀ x ∈ l, g_cell x
def kk_index : Kd ((List (S147))) := (Kd.slice 147 k147)
def g_index (p : (List (S147))) : Prop := g_cells p
def g_u8 (n : Int) : Prop := (Lit.int .u8 n).wf = true
def g_bytes (l : List Int) : Prop := l.length ≤ maxLen ∧ ∀ x ∈ l, g_u8 x
end Go.Proofs.Ytdbomnhdpniigaa.PA
