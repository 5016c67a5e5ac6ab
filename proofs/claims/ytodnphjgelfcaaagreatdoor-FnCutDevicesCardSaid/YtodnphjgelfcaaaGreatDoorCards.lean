/-
  DERIVED. GIVEN WITH THE SEED: THE CARDS: each row of YtodnphjgelfcaaaGreatDoorRows.lean that lists a variable, with what it lists TIED to the program's text (the seventh form; the later family's looks); each row that meets fmt, with fmt's text TOLD by the authors' own Lean function (tested against real Go, not proved from fmt's source: count such statements apart). THE CARD IS WHAT COUNTS. Prove the row's statement (the work); the ties are given (YtodnphjgelfcaaaGreatDoorTie.lean); close each card by the builder's one call (the guide's Derived/Test/ToyasCard.lean, 'card_holds'). Laid BY PROGRAM, IN A SANDBOX (cutbox-door.mjs). By AI agents, Wed Nov 11 2026. No macro, syntax, notation, axiom, sorry.
-/
import Derived.Test.YtodnphjgelfcaaaGreatDoorRows
import GoSem.ClaimSeven
namespace Go.Proofs.YtodnphjgelfcaaaGreatDoor
namespace Rows

/-- THE TIED CARD OF 'laws.FnCutDevices'. -/
def fnCutDevicesCard : Claim7 := { stood := { row := fnCutDevicesRow, standIns := [], harness := (true, "1daf539f24e5e2373f9e04e0393ead0c926b20cdb234283a0f457d04d408fdb4"), looks := false }, kinds := [], alts := [], laidByText := true, laidKinds := [.data, .pinned], laidTests := true, laidLooks := .later }
def FnCutDevicesCardSaid : Prop := Claim7.holds Tryz.pinned (.plain (OpenSpec.ofChange fnCutDevicesSpec)) fnCutDevicesCard

/-- THE SECOND FORM's CARD OF 'laws.FnCutDevices'. -/
def fnCutDevicesUptoCard : Claim7 := { stood := { row := fnCutDevicesUptoRow, standIns := [], harness := (true, "1daf539f24e5e2373f9e04e0393ead0c926b20cdb234283a0f457d04d408fdb4"), looks := false }, kinds := [], alts := [], laidByText := true, laidKinds := [.data, .pinned], laidTests := true, laidLooks := .later }
def FnCutDevicesUptoCardSaid : Prop := Claim7.holds Tryz.pinned (.plain (OpenSpec.upto fnCutDevicesSpec)) fnCutDevicesUptoCard
end Rows
end Go.Proofs.YtodnphjgelfcaaaGreatDoor
