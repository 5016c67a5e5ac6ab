/-
  DERIVED. GIVEN WITH THE SEED: THE CARDS: each row of YtinkjfapmhcgmaaGreatDoorRows.lean that lists a variable, with what it lists TIED to the program's text (the seventh form; the later family's looks); each row that meets fmt, with fmt's text TOLD by the authors' own Lean function (tested against real Go, not proved from fmt's source: count such statements apart). THE CARD IS WHAT COUNTS. Prove the row's statement (the work); the ties are given (YtinkjfapmhcgmaaGreatDoorTie.lean); close each card by the builder's one call (the guide's Derived/Test/ToyasCard.lean, 'card_holds'). Laid BY PROGRAM, IN A SANDBOX (cutbox-door.mjs). By AI agents, Wed Nov 11 2026. No macro, syntax, notation, axiom, sorry.
-/
import Derived.Test.YtinkjfapmhcgmaaGreatDoorRows
import GoSem.ClaimSeven
namespace Go.Proofs.YtinkjfapmhcgmaaGreatDoor
namespace Rows

/-- THE TIED CARD OF 'laws.FnExactCutDevice'. -/
def fnExactCutDeviceCard : Claim7 := { stood := { row := fnExactCutDeviceRow, standIns := [], harness := (true, "72f0b3d5ab6a895b018f80bdf61898ca45cca83e1207a2b34f5bb96addb969eb"), looks := false }, kinds := [], alts := [], laidByText := true, laidKinds := [.data, .pinned], laidTests := true, laidLooks := .later }
def FnExactCutDeviceCardSaid : Prop := Claim7.holds Tryz.pinned (.plain (OpenSpec.ofChange fnExactCutDeviceSpec)) fnExactCutDeviceCard

/-- THE SECOND FORM's CARD OF 'laws.FnExactCutDevice'. -/
def fnExactCutDeviceUptoCard : Claim7 := { stood := { row := fnExactCutDeviceUptoRow, standIns := [], harness := (true, "72f0b3d5ab6a895b018f80bdf61898ca45cca83e1207a2b34f5bb96addb969eb"), looks := false }, kinds := [], alts := [], laidByText := true, laidKinds := [.data, .pinned], laidTests := true, laidLooks := .later }
def FnExactCutDeviceUptoCardSaid : Prop := Claim7.holds Tryz.pinned (.plain (OpenSpec.upto fnExactCutDeviceSpec)) fnExactCutDeviceUptoCard
end Rows
end Go.Proofs.YtinkjfapmhcgmaaGreatDoor
