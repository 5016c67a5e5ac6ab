/-
  DERIVED. GIVEN WITH THE SEED: THE CARDS: each row of YtkkjfhgcpofjbaaGreatDoorRows.lean that lists a variable, with what it lists TIED to the program's text (the seventh form; the later family's looks); each row that meets fmt, with fmt's text TOLD by the authors' own Lean function (tested against real Go, not proved from fmt's source: count such statements apart). THE CARD IS WHAT COUNTS. Prove the row's statement (the work); the ties are given (YtkkjfhgcpofjbaaGreatDoorTie.lean); close each card by the builder's one call (the guide's Derived/Test/ToyasCard.lean, 'card_holds'). Laid BY PROGRAM, IN A SANDBOX (cutbox-door.mjs). By AI agents, Wed Nov 11 2026. No macro, syntax, notation, axiom, sorry.
-/
import Derived.Test.YtkkjfhgcpofjbaaGreatDoorRows
import GoSem.ClaimSeven
namespace Go.Proofs.YtkkjfhgcpofjbaaGreatDoor
namespace Rows

/-- THE TIED CARD OF 'laws.FnAddedDevices'. -/
def fnAddedDevicesCard : Claim7 := { stood := { row := fnAddedDevicesRow, standIns := [], harness := (true, "db7fa7742f2a012178f4c26086ce0076a2dde664b76e95521cb80b59ad133ee2"), looks := false }, kinds := [], alts := [], laidByText := true, laidKinds := [.data, .pinned], laidTests := true, laidLooks := .later }
def FnAddedDevicesCardSaid : Prop := Claim7.holds Tryz.pinned (.plain (OpenSpec.ofChange fnAddedDevicesSpec)) fnAddedDevicesCard

/-- THE SECOND FORM's CARD OF 'laws.FnAddedDevices'. -/
def fnAddedDevicesUptoCard : Claim7 := { stood := { row := fnAddedDevicesUptoRow, standIns := [], harness := (true, "db7fa7742f2a012178f4c26086ce0076a2dde664b76e95521cb80b59ad133ee2"), looks := false }, kinds := [], alts := [], laidByText := true, laidKinds := [.data, .pinned], laidTests := true, laidLooks := .later }
def FnAddedDevicesUptoCardSaid : Prop := Claim7.holds Tryz.pinned (.plain (OpenSpec.upto fnAddedDevicesSpec)) fnAddedDevicesUptoCard
end Rows
end Go.Proofs.YtkkjfhgcpofjbaaGreatDoor
