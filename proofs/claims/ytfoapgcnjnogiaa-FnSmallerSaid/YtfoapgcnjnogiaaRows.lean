/-
  No cell of these rows narrows 'for every input' (looked for: loops, veiled, ifaces, maps, wideKeys, modest, calm, conditions, laid).
  DERIVED. THE GIVEN ROWS OF THIS SEAT. 12 by the template 'for every input the law returns true; each argument reads behind the call as it read before'; 0 by the template 'total and deterministic' (their statements: YtfoapgcnjnogiaaTotals.lean).
  GIVEN WITH THE SEED: the statements are not yours to turn. If you find one false, say at which input.
  Laid BY PROGRAM, IN A SANDBOX (cutbox-rows.mjs): the forced cells as the released guide's own fill.sh prints them over the translation ed2f590a420def55… (all of the seat's roots in one cut). By AI agents, Wed Nov 11 2026. No macro, syntax, notation, axiom, sorry.
-/
import Derived.Test.YtfoapgcnjnogiaaChecked
import GoSem.Claim
import GoSem.ClaimJoined
import GoSem.ClaimMapViews
import Derived.JoinedTies
import Derived.KernelRfl
namespace Go.Proofs.Ytfoapgcnjnogiaa
/- THE CELL 'sum', in the pinned program and in every row, IS THE sha256 OF THE DUMP (.gsa) THAT YtfoapgcnjnogiaaProg.lean LOADS. Nothing in Lean hashes anything: it is a label: what it is worth is what the hold of that sum in a sandbox is worth. -/
noncomputable def Try.pinned : Pinned := { name := "ytfoapgcnjnogiaa", sum := "ed2f590a420def55499a9cc6ad17aeb0161f44b8e08554da3c613e44aae513be", checked := Try.checked }
namespace Rows
def none {H : Type} : Left H := { results := [], args := [] }

/-- 'laws.FnExactConstants': WHATEVER THE INPUT: true; the input reads as it did. -/
def fnExactConstantsSpec : ChangeSpec := { name := "fnExactConstants", fn := fun _ => fun
  | [] => { results := [.lit (.bool true)], args := [] }
  | _ => none }
def fnExactConstantsRow : OpenClaim := { program := "ytfoapgcnjnogiaa", sum := "ed2f590a420def55499a9cc6ad17aeb0161f44b8e08554da3c613e44aae513be", func := "loop.example/lapprobe/laws.FnExactConstants", spec := "fnExactConstants", apart := false }
def FnExactConstantsSaid : Prop := fnExactConstantsRow.holds Try.pinned (OpenSpec.ofChange fnExactConstantsSpec)

/-- ITS FALSE NEIGHBOUR: 'it returns false'. Refute it at one input. -/
def fnExactConstantsWrong : ChangeSpec := { name := "fnExactConstants", fn := fun _ => fun
  | [] => { results := [.lit (.bool false)], args := [] }
  | _ => none }
def FnExactConstantsWrongFalsely : Prop := fnExactConstantsRow.holds Try.pinned (OpenSpec.ofChange fnExactConstantsWrong)

/-- 'laws.FnExactProbeBoxOk': WHATEVER THE INPUT: true; the input reads as it did. -/
def fnExactProbeBoxOkSpec : ChangeSpec := { name := "fnExactProbeBoxOk", fn := fun _ => fun
  | [d] => { results := [.lit (.bool true)], args := [d] }
  | _ => none }
def fnExactProbeBoxOkRow : OpenClaim := { program := "ytfoapgcnjnogiaa", sum := "ed2f590a420def55499a9cc6ad17aeb0161f44b8e08554da3c613e44aae513be", func := "loop.example/lapprobe/laws.FnExactProbeBoxOk", spec := "fnExactProbeBoxOk", apart := false }
def FnExactProbeBoxOkSaid : Prop := fnExactProbeBoxOkRow.holds Try.pinned (OpenSpec.ofChange fnExactProbeBoxOkSpec)

/-- ITS FALSE NEIGHBOUR: 'it returns false'. Refute it at one input. -/
def fnExactProbeBoxOkWrong : ChangeSpec := { name := "fnExactProbeBoxOk", fn := fun _ => fun
  | [d] => { results := [.lit (.bool false)], args := [d] }
  | _ => none }
def FnExactProbeBoxOkWrongFalsely : Prop := fnExactProbeBoxOkRow.holds Try.pinned (OpenSpec.ofChange fnExactProbeBoxOkWrong)

/-- 'laws.FnExactProbeClose': WHATEVER THE INPUT: true; the input reads as it did. -/
def fnExactProbeCloseSpec : ChangeSpec := { name := "fnExactProbeClose", fn := fun _ => fun
  | [d1, d2] => { results := [.lit (.bool true)], args := [d1, d2] }
  | _ => none }
def fnExactProbeCloseRow : OpenClaim := { program := "ytfoapgcnjnogiaa", sum := "ed2f590a420def55499a9cc6ad17aeb0161f44b8e08554da3c613e44aae513be", func := "loop.example/lapprobe/laws.FnExactProbeClose", spec := "fnExactProbeClose", apart := false }
def FnExactProbeCloseSaid : Prop := fnExactProbeCloseRow.holds Try.pinned (OpenSpec.ofChange fnExactProbeCloseSpec)

/-- ITS FALSE NEIGHBOUR: 'it returns false'. Refute it at one input. -/
def fnExactProbeCloseWrong : ChangeSpec := { name := "fnExactProbeClose", fn := fun _ => fun
  | [d1, d2] => { results := [.lit (.bool false)], args := [d1, d2] }
  | _ => none }
def FnExactProbeCloseWrongFalsely : Prop := fnExactProbeCloseRow.holds Try.pinned (OpenSpec.ofChange fnExactProbeCloseWrong)

/-- 'laws.FnExactProbeTubeOk': WHATEVER THE INPUT: true; the input reads as it did. -/
def fnExactProbeTubeOkSpec : ChangeSpec := { name := "fnExactProbeTubeOk", fn := fun _ => fun
  | [d] => { results := [.lit (.bool true)], args := [d] }
  | _ => none }
def fnExactProbeTubeOkRow : OpenClaim := { program := "ytfoapgcnjnogiaa", sum := "ed2f590a420def55499a9cc6ad17aeb0161f44b8e08554da3c613e44aae513be", func := "loop.example/lapprobe/laws.FnExactProbeTubeOk", spec := "fnExactProbeTubeOk", apart := false }
def FnExactProbeTubeOkSaid : Prop := fnExactProbeTubeOkRow.holds Try.pinned (OpenSpec.ofChange fnExactProbeTubeOkSpec)

/-- ITS FALSE NEIGHBOUR: 'it returns false'. Refute it at one input. -/
def fnExactProbeTubeOkWrong : ChangeSpec := { name := "fnExactProbeTubeOk", fn := fun _ => fun
  | [d] => { results := [.lit (.bool false)], args := [d] }
  | _ => none }
def FnExactProbeTubeOkWrongFalsely : Prop := fnExactProbeTubeOkRow.holds Try.pinned (OpenSpec.ofChange fnExactProbeTubeOkWrong)

/-- 'laws.FnExactProbeSmaller': WHATEVER THE INPUT: true; the input reads as it did. -/
def fnExactProbeSmallerSpec : ChangeSpec := { name := "fnExactProbeSmaller", fn := fun _ => fun
  | [d1, d2] => { results := [.lit (.bool true)], args := [d1, d2] }
  | _ => none }
def fnExactProbeSmallerRow : OpenClaim := { program := "ytfoapgcnjnogiaa", sum := "ed2f590a420def55499a9cc6ad17aeb0161f44b8e08554da3c613e44aae513be", func := "loop.example/lapprobe/laws.FnExactProbeSmaller", spec := "fnExactProbeSmaller", apart := false }
def FnExactProbeSmallerSaid : Prop := fnExactProbeSmallerRow.holds Try.pinned (OpenSpec.ofChange fnExactProbeSmallerSpec)

/-- ITS FALSE NEIGHBOUR: 'it returns false'. Refute it at one input. -/
def fnExactProbeSmallerWrong : ChangeSpec := { name := "fnExactProbeSmaller", fn := fun _ => fun
  | [d1, d2] => { results := [.lit (.bool false)], args := [d1, d2] }
  | _ => none }
def FnExactProbeSmallerWrongFalsely : Prop := fnExactProbeSmallerRow.holds Try.pinned (OpenSpec.ofChange fnExactProbeSmallerWrong)

/-- 'laws.FnExactProbeSkyOk': WHATEVER THE INPUT: true; the input reads as it did. -/
def fnExactProbeSkyOkSpec : ChangeSpec := { name := "fnExactProbeSkyOk", fn := fun _ => fun
  | [d] => { results := [.lit (.bool true)], args := [d] }
  | _ => none }
def fnExactProbeSkyOkRow : OpenClaim := { program := "ytfoapgcnjnogiaa", sum := "ed2f590a420def55499a9cc6ad17aeb0161f44b8e08554da3c613e44aae513be", func := "loop.example/lapprobe/laws.FnExactProbeSkyOk", spec := "fnExactProbeSkyOk", apart := false }
def FnExactProbeSkyOkSaid : Prop := fnExactProbeSkyOkRow.holds Try.pinned (OpenSpec.ofChange fnExactProbeSkyOkSpec)

/-- ITS FALSE NEIGHBOUR: 'it returns false'. Refute it at one input. -/
def fnExactProbeSkyOkWrong : ChangeSpec := { name := "fnExactProbeSkyOk", fn := fun _ => fun
  | [d] => { results := [.lit (.bool false)], args := [d] }
  | _ => none }
def FnExactProbeSkyOkWrongFalsely : Prop := fnExactProbeSkyOkRow.holds Try.pinned (OpenSpec.ofChange fnExactProbeSkyOkWrong)

/-- 'laws.FnExactProbeMeet': WHATEVER THE INPUT: true; the input reads as it did. -/
def fnExactProbeMeetSpec : ChangeSpec := { name := "fnExactProbeMeet", fn := fun _ => fun
  | [d1, d2] => { results := [.lit (.bool true)], args := [d1, d2] }
  | _ => none }
def fnExactProbeMeetRow : OpenClaim := { program := "ytfoapgcnjnogiaa", sum := "ed2f590a420def55499a9cc6ad17aeb0161f44b8e08554da3c613e44aae513be", func := "loop.example/lapprobe/laws.FnExactProbeMeet", spec := "fnExactProbeMeet", apart := false }
def FnExactProbeMeetSaid : Prop := fnExactProbeMeetRow.holds Try.pinned (OpenSpec.ofChange fnExactProbeMeetSpec)

/-- ITS FALSE NEIGHBOUR: 'it returns false'. Refute it at one input. -/
def fnExactProbeMeetWrong : ChangeSpec := { name := "fnExactProbeMeet", fn := fun _ => fun
  | [d1, d2] => { results := [.lit (.bool false)], args := [d1, d2] }
  | _ => none }
def FnExactProbeMeetWrongFalsely : Prop := fnExactProbeMeetRow.holds Try.pinned (OpenSpec.ofChange fnExactProbeMeetWrong)

/-- 'laws.FnExactProbeCut': WHATEVER THE INPUT: true; the input reads as it did. -/
def fnExactProbeCutSpec : ChangeSpec := { name := "fnExactProbeCut", fn := fun _ => fun
  | [d1, d2] => { results := [.lit (.bool true)], args := [d1, d2] }
  | _ => none }
def fnExactProbeCutRow : OpenClaim := { program := "ytfoapgcnjnogiaa", sum := "ed2f590a420def55499a9cc6ad17aeb0161f44b8e08554da3c613e44aae513be", func := "loop.example/lapprobe/laws.FnExactProbeCut", spec := "fnExactProbeCut", apart := false }
def FnExactProbeCutSaid : Prop := fnExactProbeCutRow.holds Try.pinned (OpenSpec.ofChange fnExactProbeCutSpec)

/-- ITS FALSE NEIGHBOUR: 'it returns false'. Refute it at one input. -/
def fnExactProbeCutWrong : ChangeSpec := { name := "fnExactProbeCut", fn := fun _ => fun
  | [d1, d2] => { results := [.lit (.bool false)], args := [d1, d2] }
  | _ => none }
def FnExactProbeCutWrongFalsely : Prop := fnExactProbeCutRow.holds Try.pinned (OpenSpec.ofChange fnExactProbeCutWrong)

/-- 'laws.FnExactProbeFree': WHATEVER THE INPUT: true; the input reads as it did. -/
def fnExactProbeFreeSpec : ChangeSpec := { name := "fnExactProbeFree", fn := fun _ => fun
  | [d1, d2] => { results := [.lit (.bool true)], args := [d1, d2] }
  | _ => none }
def fnExactProbeFreeRow : OpenClaim := { program := "ytfoapgcnjnogiaa", sum := "ed2f590a420def55499a9cc6ad17aeb0161f44b8e08554da3c613e44aae513be", func := "loop.example/lapprobe/laws.FnExactProbeFree", spec := "fnExactProbeFree", apart := false }
def FnExactProbeFreeSaid : Prop := fnExactProbeFreeRow.holds Try.pinned (OpenSpec.ofChange fnExactProbeFreeSpec)

/-- ITS FALSE NEIGHBOUR: 'it returns false'. Refute it at one input. -/
def fnExactProbeFreeWrong : ChangeSpec := { name := "fnExactProbeFree", fn := fun _ => fun
  | [d1, d2] => { results := [.lit (.bool false)], args := [d1, d2] }
  | _ => none }
def FnExactProbeFreeWrongFalsely : Prop := fnExactProbeFreeRow.holds Try.pinned (OpenSpec.ofChange fnExactProbeFreeWrong)

/-- 'laws.FnCut': WHATEVER THE INPUT: true; the input reads as it did. -/
def fnCutSpec : ChangeSpec := { name := "fnCut", fn := fun _ => fun
  | [d1, d2] => { results := [.lit (.bool true)], args := [d1, d2] }
  | _ => none }
def fnCutRow : OpenClaim := { program := "ytfoapgcnjnogiaa", sum := "ed2f590a420def55499a9cc6ad17aeb0161f44b8e08554da3c613e44aae513be", func := "loop.example/lapprobe/laws.FnCut", spec := "fnCut", apart := false }
def FnCutSaid : Prop := fnCutRow.holds Try.pinned (OpenSpec.ofChange fnCutSpec)

/-- ITS FALSE NEIGHBOUR: 'it returns false'. Refute it at one input. -/
def fnCutWrong : ChangeSpec := { name := "fnCut", fn := fun _ => fun
  | [d1, d2] => { results := [.lit (.bool false)], args := [d1, d2] }
  | _ => none }
def FnCutWrongFalsely : Prop := fnCutRow.holds Try.pinned (OpenSpec.ofChange fnCutWrong)

/-- 'laws.FnMeet': WHATEVER THE INPUT: true; the input reads as it did. -/
def fnMeetSpec : ChangeSpec := { name := "fnMeet", fn := fun _ => fun
  | [d] => { results := [.lit (.bool true)], args := [d] }
  | _ => none }
def fnMeetRow : OpenClaim := { program := "ytfoapgcnjnogiaa", sum := "ed2f590a420def55499a9cc6ad17aeb0161f44b8e08554da3c613e44aae513be", func := "loop.example/lapprobe/laws.FnMeet", spec := "fnMeet", apart := false }
def FnMeetSaid : Prop := fnMeetRow.holds Try.pinned (OpenSpec.ofChange fnMeetSpec)

/-- ITS FALSE NEIGHBOUR: 'it returns false'. Refute it at one input. -/
def fnMeetWrong : ChangeSpec := { name := "fnMeet", fn := fun _ => fun
  | [d] => { results := [.lit (.bool false)], args := [d] }
  | _ => none }
def FnMeetWrongFalsely : Prop := fnMeetRow.holds Try.pinned (OpenSpec.ofChange fnMeetWrong)

/-- 'laws.FnSmaller': WHATEVER THE INPUT: true; the input reads as it did. -/
def fnSmallerSpec : ChangeSpec := { name := "fnSmaller", fn := fun _ => fun
  | [d1, d2] => { results := [.lit (.bool true)], args := [d1, d2] }
  | _ => none }
def fnSmallerRow : OpenClaim := { program := "ytfoapgcnjnogiaa", sum := "ed2f590a420def55499a9cc6ad17aeb0161f44b8e08554da3c613e44aae513be", func := "loop.example/lapprobe/laws.FnSmaller", spec := "fnSmaller", recurses := true, apart := false }
def FnSmallerSaid : Prop := fnSmallerRow.holds Try.pinned (OpenSpec.ofChange fnSmallerSpec)

/-- ITS FALSE NEIGHBOUR: 'it returns false'. Refute it at one input. -/
def fnSmallerWrong : ChangeSpec := { name := "fnSmaller", fn := fun _ => fun
  | [d1, d2] => { results := [.lit (.bool false)], args := [d1, d2] }
  | _ => none }
def FnSmallerWrongFalsely : Prop := fnSmallerRow.holds Try.pinned (OpenSpec.ofChange fnSmallerWrong)

/- THE SECOND FORM. 'bulk': how many values and letters a reading holds, each counted each time it is reached (what is shared counts as often as it is met; a slice's spare places count too). A statement '..UptoSaid' is the law's where the arguments, and the package variables that the reading takes, are together of bulk at most 1048576: NARROWER than '..Said'. Prove '..Said' where nothing that the law and all that it calls make is longer than what came in: it says more and counts as full. Else prove '..UptoSaid'. A law counts once. -/
mutual
def uptoBulk {H : Type} : DataW H → Nat
  | .lit (.string bytes) => bytes.length + 1
  | .lit _ => 1
  | .nil => 1
  | .ptr d => uptoBulk d + 1
  | .slice elems spare => uptoBulkAll elems + uptoBulkAll spare + 1
  | .agg parts => uptoBulkAll parts + 1
  | .iface _ d => uptoBulk d + 1
  | .map entries => uptoBulkEntries entries + 1
  | .held _ => 1
def uptoBulkAll {H : Type} : List (DataW H) → Nat
  | [] => 0
  | d :: r => uptoBulk d + uptoBulkAll r
def uptoBulkEntries {H : Type} : List (Lit × DataW H) → Nat
  | [] => 0
  | x :: r => uptoBulkEntry x + uptoBulkEntries r
def uptoBulkEntry {H : Type} : Lit × DataW H → Nat
  | (.string bytes, d) => bytes.length + uptoBulk d + 1
  | (_, d) => uptoBulk d + 1
 end
def uptoSmall : (H : Type) → List (DataW H) → Bool := fun _ ds => decide (uptoBulkAll ds ≤ 1048576)
def OpenSpec.upto (s : _root_.Go.ChangeSpec) : _root_.Go.OpenSpec := { _root_.Go.OpenSpec.ofChange s with cond := some uptoSmall }

/-- 'laws.FnExactConstants', WHERE WHAT IT READS IS OF BULK AT MOST 1048576: true; the input reads as it did. -/
def fnExactConstantsUptoRow : OpenClaim := { program := "ytfoapgcnjnogiaa", sum := "ed2f590a420def55499a9cc6ad17aeb0161f44b8e08554da3c613e44aae513be", func := "loop.example/lapprobe/laws.FnExactConstants", spec := "fnExactConstants", apart := false, narrowed := true }
def FnExactConstantsUptoSaid : Prop := fnExactConstantsUptoRow.holds Try.pinned (OpenSpec.upto fnExactConstantsSpec)

/-- 'laws.FnExactProbeBoxOk', WHERE WHAT IT READS IS OF BULK AT MOST 1048576: true; the input reads as it did. -/
def fnExactProbeBoxOkUptoRow : OpenClaim := { program := "ytfoapgcnjnogiaa", sum := "ed2f590a420def55499a9cc6ad17aeb0161f44b8e08554da3c613e44aae513be", func := "loop.example/lapprobe/laws.FnExactProbeBoxOk", spec := "fnExactProbeBoxOk", apart := false, narrowed := true }
def FnExactProbeBoxOkUptoSaid : Prop := fnExactProbeBoxOkUptoRow.holds Try.pinned (OpenSpec.upto fnExactProbeBoxOkSpec)

/-- 'laws.FnExactProbeClose', WHERE WHAT IT READS IS OF BULK AT MOST 1048576: true; the input reads as it did. -/
def fnExactProbeCloseUptoRow : OpenClaim := { program := "ytfoapgcnjnogiaa", sum := "ed2f590a420def55499a9cc6ad17aeb0161f44b8e08554da3c613e44aae513be", func := "loop.example/lapprobe/laws.FnExactProbeClose", spec := "fnExactProbeClose", apart := false, narrowed := true }
def FnExactProbeCloseUptoSaid : Prop := fnExactProbeCloseUptoRow.holds Try.pinned (OpenSpec.upto fnExactProbeCloseSpec)

/-- 'laws.FnExactProbeTubeOk', WHERE WHAT IT READS IS OF BULK AT MOST 1048576: true; the input reads as it did. -/
def fnExactProbeTubeOkUptoRow : OpenClaim := { program := "ytfoapgcnjnogiaa", sum := "ed2f590a420def55499a9cc6ad17aeb0161f44b8e08554da3c613e44aae513be", func := "loop.example/lapprobe/laws.FnExactProbeTubeOk", spec := "fnExactProbeTubeOk", apart := false, narrowed := true }
def FnExactProbeTubeOkUptoSaid : Prop := fnExactProbeTubeOkUptoRow.holds Try.pinned (OpenSpec.upto fnExactProbeTubeOkSpec)

/-- 'laws.FnExactProbeSmaller', WHERE WHAT IT READS IS OF BULK AT MOST 1048576: true; the input reads as it did. -/
def fnExactProbeSmallerUptoRow : OpenClaim := { program := "ytfoapgcnjnogiaa", sum := "ed2f590a420def55499a9cc6ad17aeb0161f44b8e08554da3c613e44aae513be", func := "loop.example/lapprobe/laws.FnExactProbeSmaller", spec := "fnExactProbeSmaller", apart := false, narrowed := true }
def FnExactProbeSmallerUptoSaid : Prop := fnExactProbeSmallerUptoRow.holds Try.pinned (OpenSpec.upto fnExactProbeSmallerSpec)

/-- 'laws.FnExactProbeSkyOk', WHERE WHAT IT READS IS OF BULK AT MOST 1048576: true; the input reads as it did. -/
def fnExactProbeSkyOkUptoRow : OpenClaim := { program := "ytfoapgcnjnogiaa", sum := "ed2f590a420def55499a9cc6ad17aeb0161f44b8e08554da3c613e44aae513be", func := "loop.example/lapprobe/laws.FnExactProbeSkyOk", spec := "fnExactProbeSkyOk", apart := false, narrowed := true }
def FnExactProbeSkyOkUptoSaid : Prop := fnExactProbeSkyOkUptoRow.holds Try.pinned (OpenSpec.upto fnExactProbeSkyOkSpec)

/-- 'laws.FnExactProbeMeet', WHERE WHAT IT READS IS OF BULK AT MOST 1048576: true; the input reads as it did. -/
def fnExactProbeMeetUptoRow : OpenClaim := { program := "ytfoapgcnjnogiaa", sum := "ed2f590a420def55499a9cc6ad17aeb0161f44b8e08554da3c613e44aae513be", func := "loop.example/lapprobe/laws.FnExactProbeMeet", spec := "fnExactProbeMeet", apart := false, narrowed := true }
def FnExactProbeMeetUptoSaid : Prop := fnExactProbeMeetUptoRow.holds Try.pinned (OpenSpec.upto fnExactProbeMeetSpec)

/-- 'laws.FnExactProbeCut', WHERE WHAT IT READS IS OF BULK AT MOST 1048576: true; the input reads as it did. -/
def fnExactProbeCutUptoRow : OpenClaim := { program := "ytfoapgcnjnogiaa", sum := "ed2f590a420def55499a9cc6ad17aeb0161f44b8e08554da3c613e44aae513be", func := "loop.example/lapprobe/laws.FnExactProbeCut", spec := "fnExactProbeCut", apart := false, narrowed := true }
def FnExactProbeCutUptoSaid : Prop := fnExactProbeCutUptoRow.holds Try.pinned (OpenSpec.upto fnExactProbeCutSpec)

/-- 'laws.FnExactProbeFree', WHERE WHAT IT READS IS OF BULK AT MOST 1048576: true; the input reads as it did. -/
def fnExactProbeFreeUptoRow : OpenClaim := { program := "ytfoapgcnjnogiaa", sum := "ed2f590a420def55499a9cc6ad17aeb0161f44b8e08554da3c613e44aae513be", func := "loop.example/lapprobe/laws.FnExactProbeFree", spec := "fnExactProbeFree", apart := false, narrowed := true }
def FnExactProbeFreeUptoSaid : Prop := fnExactProbeFreeUptoRow.holds Try.pinned (OpenSpec.upto fnExactProbeFreeSpec)

/-- 'laws.FnCut', WHERE WHAT IT READS IS OF BULK AT MOST 1048576: true; the input reads as it did. -/
def fnCutUptoRow : OpenClaim := { program := "ytfoapgcnjnogiaa", sum := "ed2f590a420def55499a9cc6ad17aeb0161f44b8e08554da3c613e44aae513be", func := "loop.example/lapprobe/laws.FnCut", spec := "fnCut", apart := false, narrowed := true }
def FnCutUptoSaid : Prop := fnCutUptoRow.holds Try.pinned (OpenSpec.upto fnCutSpec)

/-- 'laws.FnMeet', WHERE WHAT IT READS IS OF BULK AT MOST 1048576: true; the input reads as it did. -/
def fnMeetUptoRow : OpenClaim := { program := "ytfoapgcnjnogiaa", sum := "ed2f590a420def55499a9cc6ad17aeb0161f44b8e08554da3c613e44aae513be", func := "loop.example/lapprobe/laws.FnMeet", spec := "fnMeet", apart := false, narrowed := true }
def FnMeetUptoSaid : Prop := fnMeetUptoRow.holds Try.pinned (OpenSpec.upto fnMeetSpec)

/-- 'laws.FnSmaller', WHERE WHAT IT READS IS OF BULK AT MOST 1048576: true; the input reads as it did. -/
def fnSmallerUptoRow : OpenClaim := { program := "ytfoapgcnjnogiaa", sum := "ed2f590a420def55499a9cc6ad17aeb0161f44b8e08554da3c613e44aae513be", func := "loop.example/lapprobe/laws.FnSmaller", spec := "fnSmaller", recurses := true, apart := false, narrowed := true }
def FnSmallerUptoSaid : Prop := fnSmallerUptoRow.holds Try.pinned (OpenSpec.upto fnSmallerSpec)

end Rows
end Go.Proofs.Ytfoapgcnjnogiaa
