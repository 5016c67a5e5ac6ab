/-
  DERIVED. GIVEN WITH THE SEED: THE CARDS: each row of YtegpalcapdnnoaaGreatDoorRows.lean that lists a variable, with what it lists TIED to the program's text (the seventh form; the later family's looks); each row that meets fmt, with fmt's text TOLD by the authors' own Lean function (tested against real Go, not proved from fmt's source: count such statements apart). THE CARD IS WHAT COUNTS. Prove the row's statement (the work); the ties are given (YtegpalcapdnnoaaGreatDoorTie.lean); close each card by the builder's one call (the guide's Derived/Test/ToyasCard.lean, 'card_holds'). Laid BY PROGRAM, IN A SANDBOX (cutbox-door.mjs). By AI agents, Wed Nov 11 2026. No macro, syntax, notation, axiom, sorry.
-/
import Derived.Test.YtegpalcapdnnoaaGreatDoorRows
import GoSem.ClaimSeven
namespace Go.Proofs.YtegpalcapdnnoaaGreatDoor
namespace Rows

/-- THE TIED CARD OF 'laws.FnExactSyncOne'. -/
def fnExactSyncOneCard : Claim7 := { stood := { row := fnExactSyncOneRow, standIns := [], harness := (true, "6c0661499daec082f39776d2b085b4fdd418aeffc5cfc1cba33401f0b6c26ec4"), looks := false }, kinds := [], alts := [], laidByText := true, laidKinds := [.data, .pinned], laidTests := true, laidLooks := .later }
def FnExactSyncOneCardSaid : Prop := Claim7.holds Tryz.pinned (.plain (OpenSpec.ofChange fnExactSyncOneSpec)) fnExactSyncOneCard

/-- THE TIED CARD OF 'laws.FnExactThiefSync'. -/
def fnExactThiefSyncCard : Claim7 := { stood := { row := fnExactThiefSyncRow, standIns := [], harness := (true, "6c0661499daec082f39776d2b085b4fdd418aeffc5cfc1cba33401f0b6c26ec4"), looks := false }, kinds := [], alts := [], laidByText := true, laidKinds := [.data, .pinned], laidTests := true, laidLooks := .later }
def FnExactThiefSyncCardSaid : Prop := Claim7.holds Tryz.pinned (.plain (OpenSpec.ofChange fnExactThiefSyncSpec)) fnExactThiefSyncCard

/-- THE SECOND FORM's CARD OF 'laws.FnExactSyncOne'. -/
def fnExactSyncOneUptoCard : Claim7 := { stood := { row := fnExactSyncOneUptoRow, standIns := [], harness := (true, "6c0661499daec082f39776d2b085b4fdd418aeffc5cfc1cba33401f0b6c26ec4"), looks := false }, kinds := [], alts := [], laidByText := true, laidKinds := [.data, .pinned], laidTests := true, laidLooks := .later }
def FnExactSyncOneUptoCardSaid : Prop := Claim7.holds Tryz.pinned (.plain (OpenSpec.upto fnExactSyncOneSpec)) fnExactSyncOneUptoCard

/-- THE SECOND FORM's CARD OF 'laws.FnExactThiefSync'. -/
def fnExactThiefSyncUptoCard : Claim7 := { stood := { row := fnExactThiefSyncUptoRow, standIns := [], harness := (true, "6c0661499daec082f39776d2b085b4fdd418aeffc5cfc1cba33401f0b6c26ec4"), looks := false }, kinds := [], alts := [], laidByText := true, laidKinds := [.data, .pinned], laidTests := true, laidLooks := .later }
def FnExactThiefSyncUptoCardSaid : Prop := Claim7.holds Tryz.pinned (.plain (OpenSpec.upto fnExactThiefSyncSpec)) fnExactThiefSyncUptoCard
end Rows
end Go.Proofs.YtegpalcapdnnoaaGreatDoor
