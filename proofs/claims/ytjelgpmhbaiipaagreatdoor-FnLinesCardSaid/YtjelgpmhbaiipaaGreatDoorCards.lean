/-
  DERIVED. GIVEN WITH THE SEED: THE CARDS: each row of YtjelgpmhbaiipaaGreatDoorRows.lean that lists a variable, with what it lists TIED to the program's text (the seventh form; the later family's looks); each row that meets fmt, with fmt's text TOLD by the authors' own Lean function (tested against real Go, not proved from fmt's source: count such statements apart). THE CARD IS WHAT COUNTS. Prove the row's statement (the work); the ties are given (YtjelgpmhbaiipaaGreatDoorTie.lean); close each card by the builder's one call (the guide's Derived/Test/ToyasCard.lean, 'card_holds'). Laid BY PROGRAM, IN A SANDBOX (cutbox-door.mjs). By AI agents, Wed Nov 11 2026. No macro, syntax, notation, axiom, sorry.
-/
import Derived.Test.YtjelgpmhbaiipaaGreatDoorRows
import GoSem.ClaimSeven
namespace Go.Proofs.YtjelgpmhbaiipaaGreatDoor
namespace Rows

/-- THE TIED CARD OF 'laws.FnExactProbeSession'. -/
def fnExactProbeSessionCard : Claim7 := { stood := { row := fnExactProbeSessionRow, standIns := [], harness := (true, "a9dc780e1871d7965e37f7099c891f9445b3ae4b5a2adbfaedbfb504f3226050"), looks := true }, kinds := [], alts := [], laidByText := true, laidKinds := [.data, .data, .data, .data, .sentinel, .sentinel, .pinned], laidTests := true, laidLooks := .later }
def FnExactProbeSessionCardSaid : Prop := Claim7.holds Tryz.pinned (.plain (OpenSpec.ofChange fnExactProbeSessionSpec)) fnExactProbeSessionCard

/-- THE TIED CARD OF 'laws.FnLines'. -/
def fnLinesCard : Claim7 := { stood := { row := fnLinesRow, standIns := [], harness := (true, "a9dc780e1871d7965e37f7099c891f9445b3ae4b5a2adbfaedbfb504f3226050"), looks := true }, kinds := [], alts := [], laidByText := true, laidKinds := [.data, .data, .data, .data, .sentinel, .sentinel, .pinned], laidTests := true, laidLooks := .later }
def FnLinesCardSaid : Prop := Claim7.holds Tryz.pinned (.plain (OpenSpec.ofChange fnLinesSpec)) fnLinesCard

/-- THE SECOND FORM's CARD OF 'laws.FnExactProbeSession'. -/
def fnExactProbeSessionUptoCard : Claim7 := { stood := { row := fnExactProbeSessionUptoRow, standIns := [], harness := (true, "a9dc780e1871d7965e37f7099c891f9445b3ae4b5a2adbfaedbfb504f3226050"), looks := true }, kinds := [], alts := [], laidByText := true, laidKinds := [.data, .data, .data, .data, .sentinel, .sentinel, .pinned], laidTests := true, laidLooks := .later }
def FnExactProbeSessionUptoCardSaid : Prop := Claim7.holds Tryz.pinned (.plain (OpenSpec.upto fnExactProbeSessionSpec)) fnExactProbeSessionUptoCard

/-- THE SECOND FORM's CARD OF 'laws.FnLines'. -/
def fnLinesUptoCard : Claim7 := { stood := { row := fnLinesUptoRow, standIns := [], harness := (true, "a9dc780e1871d7965e37f7099c891f9445b3ae4b5a2adbfaedbfb504f3226050"), looks := true }, kinds := [], alts := [], laidByText := true, laidKinds := [.data, .data, .data, .data, .sentinel, .sentinel, .pinned], laidTests := true, laidLooks := .later }
def FnLinesUptoCardSaid : Prop := Claim7.holds Tryz.pinned (.plain (OpenSpec.upto fnLinesSpec)) fnLinesUptoCard
end Rows
end Go.Proofs.YtjelgpmhbaiipaaGreatDoor
