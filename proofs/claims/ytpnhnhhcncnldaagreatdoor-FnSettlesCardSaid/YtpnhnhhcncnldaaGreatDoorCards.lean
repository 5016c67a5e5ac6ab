/-
  DERIVED. GIVEN WITH THE SEED: THE CARDS: each row of YtpnhnhhcncnldaaGreatDoorRows.lean that lists a variable, with what it lists TIED to the program's text (the seventh form; the later family's looks); each row that meets fmt, with fmt's text TOLD by the authors' own Lean function (tested against real Go, not proved from fmt's source: count such statements apart). THE CARD IS WHAT COUNTS. Prove the row's statement (the work); the ties are given (YtpnhnhhcncnldaaGreatDoorTie.lean); close each card by the builder's one call (the guide's Derived/Test/ToyasCard.lean, 'card_holds'). Laid BY PROGRAM, IN A SANDBOX (cutbox-door.mjs). By AI agents, Wed Nov 11 2026. No macro, syntax, notation, axiom, sorry.
-/
import Derived.Test.YtpnhnhhcncnldaaGreatDoorRows
import GoSem.ClaimSeven
namespace Go.Proofs.YtpnhnhhcncnldaaGreatDoor
namespace Rows

/-- THE TIED CARD OF 'laws.FnSettles'. -/
def fnSettlesCard : Claim7 := { stood := { row := fnSettlesRow, standIns := [], harness := (true, "f9c92e362e4cab75d35b0e21ac5c00993952647c81587c8ef535c296838a52e8"), looks := false }, kinds := [], alts := [], laidByText := true, laidKinds := [.data, .pinned], laidTests := true, laidLooks := .later }
def FnSettlesCardSaid : Prop := Claim7.holds Tryz.pinned (.plain (OpenSpec.ofChange fnSettlesSpec)) fnSettlesCard

/-- THE SECOND FORM's CARD OF 'laws.FnSettles'. -/
def fnSettlesUptoCard : Claim7 := { stood := { row := fnSettlesUptoRow, standIns := [], harness := (true, "f9c92e362e4cab75d35b0e21ac5c00993952647c81587c8ef535c296838a52e8"), looks := false }, kinds := [], alts := [], laidByText := true, laidKinds := [.data, .pinned], laidTests := true, laidLooks := .later }
def FnSettlesUptoCardSaid : Prop := Claim7.holds Tryz.pinned (.plain (OpenSpec.upto fnSettlesSpec)) fnSettlesUptoCard
end Rows
end Go.Proofs.YtpnhnhhcncnldaaGreatDoor
