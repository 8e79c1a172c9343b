/-
  No cell of these rows narrows 'for every input' (looked for: loops, veiled, ifaces, maps, wideKeys, modest, calm, conditions, laid).
  DERIVED. THE GIVEN ROWS OF THIS SEAT. 6 by the template 'for every input the law returns true; each argument reads behind the call as it read before'; 0 by the template 'total and deterministic' (their statements: YtdbomnhdpniigaaTotals.lean).
  GIVEN WITH THE SEED: the statements are not yours to turn. If you find one false, say at which input.
  Laid BY PROGRAM, IN A SANDBOX (cutbox-rows.mjs): the forced cells as the released guide's own fill.sh prints them over the translation 56bbc2cf3ff47825… (all of the seat's roots in one cut). By AI agents, Wed Nov 11 2026. No macro, syntax, notation, axiom, sorry.
-/
import Derived.Test.YtdbomnhdpniigaaChecked
import GoSem.Claim
import GoSem.ClaimJoined
import GoSem.ClaimMapViews
import Derived.JoinedTies
import Derived.KernelRfl
namespace Go.Proofs.Ytdbomnhdpniigaa
/- THE CELL 'sum', in the pinned program and in every row, IS THE sha256 OF THE DUMP (.gsa) THAT YtdbomnhdpniigaaProg.lean LOADS. Nothing in Lean hashes anything: it is a label: what it is worth is what the hold of that sum in a sandbox is worth. -/
noncomputable def Try.pinned : Pinned := { name := "ytdbomnhdpniigaa", sum := "56bbc2cf3ff4782516bf2148d69390a185e00a007c8a38b20e87194233abde5c", checked := Try.checked }
namespace Rows
def none {H : Type} : Left H := { results := [], args := [] }

/-- 'laws.FnExactProbeAll': WHATEVER THE INPUT: true; the input reads as it did. -/
def fnExactProbeAllSpec : ChangeSpec := { name := "fnExactProbeAll", fn := fun _ => fun
  | [d] => { results := [.lit (.bool true)], args := [d] }
  | _ => none }
def fnExactProbeAllRow : OpenClaim := { program := "ytdbomnhdpniigaa", sum := "56bbc2cf3ff4782516bf2148d69390a185e00a007c8a38b20e87194233abde5c", func := "loop.example/lapprobe/laws.FnExactProbeAll", spec := "fnExactProbeAll", plainKeys := false, apart := false }
def FnExactProbeAllSaid : Prop := fnExactProbeAllRow.holds Try.pinned (OpenSpec.ofChange fnExactProbeAllSpec)

/-- ITS FALSE NEIGHBOUR: 'it returns false'. Refute it at one input. -/
def fnExactProbeAllWrong : ChangeSpec := { name := "fnExactProbeAll", fn := fun _ => fun
  | [d] => { results := [.lit (.bool false)], args := [d] }
  | _ => none }
def FnExactProbeAllWrongFalsely : Prop := fnExactProbeAllRow.holds Try.pinned (OpenSpec.ofChange fnExactProbeAllWrong)

/-- 'laws.FnExactProbeWith': WHATEVER THE INPUT: true; the input reads as it did. -/
def fnExactProbeWithSpec : ChangeSpec := { name := "fnExactProbeWith", fn := fun _ => fun
  | [d1, d2] => { results := [.lit (.bool true)], args := [d1, d2] }
  | _ => none }
def fnExactProbeWithRow : OpenClaim := { program := "ytdbomnhdpniigaa", sum := "56bbc2cf3ff4782516bf2148d69390a185e00a007c8a38b20e87194233abde5c", func := "loop.example/lapprobe/laws.FnExactProbeWith", spec := "fnExactProbeWith", plainKeys := false, apart := false }
def FnExactProbeWithSaid : Prop := fnExactProbeWithRow.holds Try.pinned (OpenSpec.ofChange fnExactProbeWithSpec)

/-- ITS FALSE NEIGHBOUR: 'it returns false'. Refute it at one input. -/
def fnExactProbeWithWrong : ChangeSpec := { name := "fnExactProbeWith", fn := fun _ => fun
  | [d1, d2] => { results := [.lit (.bool false)], args := [d1, d2] }
  | _ => none }
def FnExactProbeWithWrongFalsely : Prop := fnExactProbeWithRow.holds Try.pinned (OpenSpec.ofChange fnExactProbeWithWrong)

/-- 'laws.FnAll': WHATEVER THE INPUT: true; the input reads as it did. -/
def fnAllSpec : ChangeSpec := { name := "fnAll", fn := fun _ => fun
  | [d] => { results := [.lit (.bool true)], args := [d] }
  | _ => none }
def fnAllRow : OpenClaim := { program := "ytdbomnhdpniigaa", sum := "56bbc2cf3ff4782516bf2148d69390a185e00a007c8a38b20e87194233abde5c", func := "loop.example/lapprobe/laws.FnAll", spec := "fnAll", unfollowed := true, recurses := true, plainKeys := false, apart := false }
def FnAllSaid : Prop := fnAllRow.holds Try.pinned (OpenSpec.ofChange fnAllSpec)

/-- ITS FALSE NEIGHBOUR: 'it returns false'. Refute it at one input. -/
def fnAllWrong : ChangeSpec := { name := "fnAll", fn := fun _ => fun
  | [d] => { results := [.lit (.bool false)], args := [d] }
  | _ => none }
def FnAllWrongFalsely : Prop := fnAllRow.holds Try.pinned (OpenSpec.ofChange fnAllWrong)

/-- 'laws.FnExactProbeHappen': WHATEVER THE INPUT: true; the input reads as it did. -/
def fnExactProbeHappenSpec : ChangeSpec := { name := "fnExactProbeHappen", fn := fun _ => fun
  | [d1, d2] => { results := [.lit (.bool true)], args := [d1, d2] }
  | _ => none }
def fnExactProbeHappenRow : OpenClaim := { program := "ytdbomnhdpniigaa", sum := "56bbc2cf3ff4782516bf2148d69390a185e00a007c8a38b20e87194233abde5c", func := "loop.example/lapprobe/laws.FnExactProbeHappen", spec := "fnExactProbeHappen", unfollowed := true, recurses := true, plainKeys := false, apart := false }
def FnExactProbeHappenSaid : Prop := fnExactProbeHappenRow.holds Try.pinned (OpenSpec.ofChange fnExactProbeHappenSpec)

/-- ITS FALSE NEIGHBOUR: 'it returns false'. Refute it at one input. -/
def fnExactProbeHappenWrong : ChangeSpec := { name := "fnExactProbeHappen", fn := fun _ => fun
  | [d1, d2] => { results := [.lit (.bool false)], args := [d1, d2] }
  | _ => none }
def FnExactProbeHappenWrongFalsely : Prop := fnExactProbeHappenRow.holds Try.pinned (OpenSpec.ofChange fnExactProbeHappenWrong)

/-- 'laws.FnExactProbeIndexOf': WHATEVER THE INPUT: true; the input reads as it did. -/
def fnExactProbeIndexOfSpec : ChangeSpec := { name := "fnExactProbeIndexOf", fn := fun _ => fun
  | [d] => { results := [.lit (.bool true)], args := [d] }
  | _ => none }
def fnExactProbeIndexOfRow : OpenClaim := { program := "ytdbomnhdpniigaa", sum := "56bbc2cf3ff4782516bf2148d69390a185e00a007c8a38b20e87194233abde5c", func := "loop.example/lapprobe/laws.FnExactProbeIndexOf", spec := "fnExactProbeIndexOf", inPlace := ["internal/reflectlite.ValueOf", "internal/reflectlite.Swapper", "(internal/reflectlite.Value).Len"], unfollowed := true, recurses := true, plainKeys := false, apart := false }
def FnExactProbeIndexOfSaid : Prop := fnExactProbeIndexOfRow.holds Try.pinned (OpenSpec.ofChange fnExactProbeIndexOfSpec)

/-- ITS FALSE NEIGHBOUR: 'it returns false'. Refute it at one input. -/
def fnExactProbeIndexOfWrong : ChangeSpec := { name := "fnExactProbeIndexOf", fn := fun _ => fun
  | [d] => { results := [.lit (.bool false)], args := [d] }
  | _ => none }
def FnExactProbeIndexOfWrongFalsely : Prop := fnExactProbeIndexOfRow.holds Try.pinned (OpenSpec.ofChange fnExactProbeIndexOfWrong)

/-- 'laws.FnExactProbeAsk': WHATEVER THE INPUT: true; the input reads as it did. -/
def fnExactProbeAskSpec : ChangeSpec := { name := "fnExactProbeAsk", fn := fun _ => fun
  | [d1, d2] => { results := [.lit (.bool true)], args := [d1, d2] }
  | _ => none }
def fnExactProbeAskRow : OpenClaim := { program := "ytdbomnhdpniigaa", sum := "56bbc2cf3ff4782516bf2148d69390a185e00a007c8a38b20e87194233abde5c", func := "loop.example/lapprobe/laws.FnExactProbeAsk", spec := "fnExactProbeAsk", recurses := true, plainKeys := false, apart := false }
def FnExactProbeAskSaid : Prop := fnExactProbeAskRow.holds Try.pinned (OpenSpec.ofChange fnExactProbeAskSpec)

/-- ITS FALSE NEIGHBOUR: 'it returns false'. Refute it at one input. -/
def fnExactProbeAskWrong : ChangeSpec := { name := "fnExactProbeAsk", fn := fun _ => fun
  | [d1, d2] => { results := [.lit (.bool false)], args := [d1, d2] }
  | _ => none }
def FnExactProbeAskWrongFalsely : Prop := fnExactProbeAskRow.holds Try.pinned (OpenSpec.ofChange fnExactProbeAskWrong)

/- THE SECOND FORM. 'bulk': how many values and letters a reading holds, each counted each time it is reached (what is shared counts as often as it is met; a slice's spare places count too). A statement '..UptoSaid' is the law's where the arguments, and the package variables that the reading takes, are together of bulk at most 1048576: NARROWER than '..Said'. Prove '..Said' where nothing that the law and all that it calls make is longer than what came in: it says more and counts as full. Else prove '..UptoSaid'. A law counts once. -/
mutual
def uptoBulk {H : Type} : DataW H → Nat
  | .lit (.string bytes) => bytes.length + 1
  | .lit _ => 1
  | .nil => 1
  | .ptr d => uptoBulk d + 1
  | .slice elems spare => uptoBulkAll elems + uptoBulkAll spare + 1
  | .agg parts => uptoBulkAll parts + 1
  | .iface _ d => uptoBulk d + 1
  | .map entries => uptoBulkEntries entries + 1
  | .held _ => 1
def uptoBulkAll {H : Type} : List (DataW H) → Nat
  | [] => 0
  | d :: r => uptoBulk d + uptoBulkAll r
def uptoBulkEntries {H : Type} : List (Lit × DataW H) → Nat
  | [] => 0
  | x :: r => uptoBulkEntry x + uptoBulkEntries r
def uptoBulkEntry {H : Type} : Lit × DataW H → Nat
  | (.string bytes, d) => bytes.length + uptoBulk d + 1
  | (_, d) => uptoBulk d + 1
 end
def uptoSmall : (H : Type) → List (DataW H) → Bool := fun _ ds => decide (uptoBulkAll ds ≤ 1048576)
def OpenSpec.upto (s : _root_.Go.ChangeSpec) : _root_.Go.OpenSpec := { _root_.Go.OpenSpec.ofChange s with cond := some uptoSmall }

/-- 'laws.FnExactProbeAll', WHERE WHAT IT READS IS OF BULK AT MOST 1048576: true; the input reads as it did. -/
def fnExactProbeAllUptoRow : OpenClaim := { program := "ytdbomnhdpniigaa", sum := "56bbc2cf3ff4782516bf2148d69390a185e00a007c8a38b20e87194233abde5c", func := "loop.example/lapprobe/laws.FnExactProbeAll", spec := "fnExactProbeAll", plainKeys := false, apart := false, narrowed := true }
def FnExactProbeAllUptoSaid : Prop := fnExactProbeAllUptoRow.holds Try.pinned (OpenSpec.upto fnExactProbeAllSpec)

/-- 'laws.FnExactProbeWith', WHERE WHAT IT READS IS OF BULK AT MOST 1048576: true; the input reads as it did. -/
def fnExactProbeWithUptoRow : OpenClaim := { program := "ytdbomnhdpniigaa", sum := "56bbc2cf3ff4782516bf2148d69390a185e00a007c8a38b20e87194233abde5c", func := "loop.example/lapprobe/laws.FnExactProbeWith", spec := "fnExactProbeWith", plainKeys := false, apart := false, narrowed := true }
def FnExactProbeWithUptoSaid : Prop := fnExactProbeWithUptoRow.holds Try.pinned (OpenSpec.upto fnExactProbeWithSpec)

/-- 'laws.FnAll', WHERE WHAT IT READS IS OF BULK AT MOST 1048576: true; the input reads as it did. -/
def fnAllUptoRow : OpenClaim := { program := "ytdbomnhdpniigaa", sum := "56bbc2cf3ff4782516bf2148d69390a185e00a007c8a38b20e87194233abde5c", func := "loop.example/lapprobe/laws.FnAll", spec := "fnAll", unfollowed := true, recurses := true, plainKeys := false, apart := false, narrowed := true }
def FnAllUptoSaid : Prop := fnAllUptoRow.holds Try.pinned (OpenSpec.upto fnAllSpec)

/-- 'laws.FnExactProbeHappen', WHERE WHAT IT READS IS OF BULK AT MOST 1048576: true; the input reads as it did. -/
def fnExactProbeHappenUptoRow : OpenClaim := { program := "ytdbomnhdpniigaa", sum := "56bbc2cf3ff4782516bf2148d69390a185e00a007c8a38b20e87194233abde5c", func := "loop.example/lapprobe/laws.FnExactProbeHappen", spec := "fnExactProbeHappen", unfollowed := true, recurses := true, plainKeys := false, apart := false, narrowed := true }
def FnExactProbeHappenUptoSaid : Prop := fnExactProbeHappenUptoRow.holds Try.pinned (OpenSpec.upto fnExactProbeHappenSpec)

/-- 'laws.FnExactProbeIndexOf', WHERE WHAT IT READS IS OF BULK AT MOST 1048576: true; the input reads as it did. -/
def fnExactProbeIndexOfUptoRow : OpenClaim := { program := "ytdbomnhdpniigaa", sum := "56bbc2cf3ff4782516bf2148d69390a185e00a007c8a38b20e87194233abde5c", func := "loop.example/lapprobe/laws.FnExactProbeIndexOf", spec := "fnExactProbeIndexOf", inPlace := ["internal/reflectlite.ValueOf", "internal/reflectlite.Swapper", "(internal/reflectlite.Value).Len"], unfollowed := true, recurses := true, plainKeys := false, apart := false, narrowed := true }
def FnExactProbeIndexOfUptoSaid : Prop := fnExactProbeIndexOfUptoRow.holds Try.pinned (OpenSpec.upto fnExactProbeIndexOfSpec)

/-- 'laws.FnExactProbeAsk', WHERE WHAT IT READS IS OF BULK AT MOST 1048576: true; the input reads as it did. -/
def fnExactProbeAskUptoRow : OpenClaim := { program := "ytdbomnhdpniigaa", sum := "56bbc2cf3ff4782516bf2148d69390a185e00a007c8a38b20e87194233abde5c", func := "loop.example/lapprobe/laws.FnExactProbeAsk", spec := "fnExactProbeAsk", recurses := true, plainKeys := false, apart := false, narrowed := true }
def FnExactProbeAskUptoSaid : Prop := fnExactProbeAskUptoRow.holds Try.pinned (OpenSpec.upto fnExactProbeAskSpec)

end Rows
end Go.Proofs.Ytdbomnhdpniigaa
