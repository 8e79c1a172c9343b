/- What an argument that can be read is bounded by, kind by kind, for the law FnExactProbeHappen. No condition. -/
import Derived.Test.YtdbomnhdpniigaaPAs
namespace Go.Proofs.Ytdbomnhdpniigaa.PA
open Go.RowKit Go.Proofs.YtdbomnhdpniigaaW.PrintWords
def g_int (n : Int) : Prop := (Lit.int .i64 n).wf = true
def g_box (x : S121) : Prop := g_int x.f0 ∧ g_int x.f1 ∧ g_int x.f2 ∧ g_int x.f3 ∧ g_int x.f4 ∧ g_int x.f5
def g_str (s : ByteArray) : Prop := s.size ≤ maxLen
def g_boxes (l : List S121) : Prop := l.length ≤ maxLen ∧ ∀ x ∈ l, g_box x
def g_tube (x : S35) : Prop := g_str x.f0 ∧ g_boxes x.f1
def g_tubes (l : List S35) : Prop := l.length ≤ maxLen ∧ ∀ x ∈ l, g_tube x
def g_u8 (n : Int) : Prop := (Lit.int .u8 n).wf = true
def g_bytes (l : List Int) : Prop := l.length ≤ maxLen ∧ ∀ x ∈ l, g_u8 x
def g_bool (_ : Bool) : Prop := True
def kk_event : Kd (Bool × S35) := Kd.pair Kd.bool k35
def g_event (p : Bool × S35) : Prop := g_bool p.1 ∧ g_tube p.2
end Go.Proofs.Ytdbomnhdpniigaa.PA
