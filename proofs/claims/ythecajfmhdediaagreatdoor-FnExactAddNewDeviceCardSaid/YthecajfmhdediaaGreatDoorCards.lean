/-
  DERIVED. GIVEN WITH THE SEED: THE CARDS: each row of YthecajfmhdediaaGreatDoorRows.lean that lists a variable, with what it lists TIED to the program's text (the seventh form; the later family's looks); each row that meets fmt, with fmt's text TOLD by the authors' own Lean function (tested against real Go, not proved from fmt's source: count such statements apart). THE CARD IS WHAT COUNTS. Prove the row's statement (the work); the ties are given (YthecajfmhdediaaGreatDoorTie.lean); close each card by the builder's one call (the guide's Derived/Test/ToyasCard.lean, 'card_holds'). Laid BY PROGRAM, IN A SANDBOX (cutbox-door.mjs). By AI agents, Wed Nov 11 2026. No macro, syntax, notation, axiom, sorry.
-/
import Derived.Test.YthecajfmhdediaaGreatDoorRows
import GoSem.ClaimSeven
namespace Go.Proofs.YthecajfmhdediaaGreatDoor
namespace Rows

/-- THE TIED CARD OF 'laws.FnExactAddNewDevice'. -/
def fnExactAddNewDeviceCard : Claim7 := { stood := { row := fnExactAddNewDeviceRow, standIns := [], harness := (true, "7f03aeeb431a516f2933b050ac55d957f0cae8d142573fe88bfa92040fd75293"), looks := false }, kinds := [], alts := [], laidByText := true, laidKinds := [.data, .pinned], laidTests := true, laidLooks := .later }
def FnExactAddNewDeviceCardSaid : Prop := Claim7.holds Tryz.pinned (.plain (OpenSpec.ofChange fnExactAddNewDeviceSpec)) fnExactAddNewDeviceCard

/-- THE SECOND FORM's CARD OF 'laws.FnExactAddNewDevice'. -/
def fnExactAddNewDeviceUptoCard : Claim7 := { stood := { row := fnExactAddNewDeviceUptoRow, standIns := [], harness := (true, "7f03aeeb431a516f2933b050ac55d957f0cae8d142573fe88bfa92040fd75293"), looks := false }, kinds := [], alts := [], laidByText := true, laidKinds := [.data, .pinned], laidTests := true, laidLooks := .later }
def FnExactAddNewDeviceUptoCardSaid : Prop := Claim7.holds Tryz.pinned (.plain (OpenSpec.upto fnExactAddNewDeviceSpec)) fnExactAddNewDeviceUptoCard
end Rows
end Go.Proofs.YthecajfmhdediaaGreatDoor
