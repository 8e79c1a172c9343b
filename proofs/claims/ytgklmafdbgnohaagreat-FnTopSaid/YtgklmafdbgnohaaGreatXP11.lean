/- What an argument that can be read is bounded by, kind by kind, for the law FnExactProbeFollow. No condition. -/
import Derived.Test.YtgklmafdbgnohaaGreatXPAs1
set_option linter.unusedVariables false
set_option linter.unusedSimpArgs false
namespace Go.Proofs.YtgklmafdbgnohaaGreat.PA
open Go.RowKit Go.Proofs.YtgklmafdbgnohaaGreatW.PrintWords
def g_int (n:Int):Prop:=(Lit.int .i64 n).wf=true
def g_str (s:ByteArray):Prop:=s.size≤maxLen
def g_slot (x:S184):Prop:=g_int x.f0∧g_int x.f1∧g_int x.f2∧g_int x.f3∧g_str x.f4∧g_int x.f5
def g_slots (l:List S184):Prop:=l.length≤maxLen∧∀ x∈l,g_slot x
def g_cell (x:S133):Prop:=g_int x.f0∧g_int x.f1∧g_slots x.f2
def g_cells (l:List S133):Prop:=l.length≤maxLen∧∀ x∈l,g_cell x
def g_index (p:(List (S133))):Prop:=g_cells p
def g_box (x:S163):Prop:=g_int x.f0∧g_int x.f1∧g_int x.f2∧g_int x.f3∧g_int x.f4∧g_int x.f5
def g_boxes (l:List S163):Prop:=l.length≤maxLen∧∀ x∈l,g_box x
def g_tube (x:S55):Prop:=g_str x.f0∧g_boxes x.f1
def g_tubes (l:List S55):Prop:=l.length≤maxLen∧∀ x∈l,g_tube x
def g_bool (_:Bool):Prop:=True
def g_event (p:Bool × S55):Prop:=g_bool p.1∧g_tube p.2
def g_u8 (n:Int):Prop:=(Lit.int .u8 n).wf=true
def g_bytes (l:List Int):Prop:=l.length≤maxLen∧∀ x∈l,g_u8 x
end Go.Proofs.YtgklmafdbgnohaaGreat.PA
