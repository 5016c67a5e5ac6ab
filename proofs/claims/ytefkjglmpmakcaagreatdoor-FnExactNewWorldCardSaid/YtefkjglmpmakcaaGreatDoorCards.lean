/-
  DERIVED. GIVEN WITH THE SEED: THE CARDS: each row of YtefkjglmpmakcaaGreatDoorRows.lean that lists a variable, with what it lists TIED to the program's text (the seventh form; the later family's looks); each row that meets fmt, with fmt's text TOLD by the authors' own Lean function (tested against real Go, not proved from fmt's source: count such statements apart). THE CARD IS WHAT COUNTS. Prove the row's statement (the work); the ties are given (YtefkjglmpmakcaaGreatDoorTie.lean); close each card by the builder's one call (the guide's Derived/Test/ToyasCard.lean, 'card_holds'). Laid BY PROGRAM, IN A SANDBOX (cutbox-door.mjs). By AI agents, Wed Nov 11 2026. No macro, syntax, notation, axiom, sorry.
-/
import Derived.Test.YtefkjglmpmakcaaGreatDoorRows
import GoSem.ClaimSeven
namespace Go.Proofs.YtefkjglmpmakcaaGreatDoor
namespace Rows

/-- THE TIED CARD OF 'laws.FnExactNewWorld'. -/
def fnExactNewWorldCard : Claim7 := { stood := { row := fnExactNewWorldRow, standIns := [], harness := (true, "002a92ba7f9e1aac754bf480981bc34f285cf8f3573b5da424c2d841f15b2fcf"), looks := false }, kinds := [], alts := [], laidByText := true, laidKinds := [.data, .pinned], laidTests := true, laidLooks := .later }
def FnExactNewWorldCardSaid : Prop := Claim7.holds Tryz.pinned (.plain (OpenSpec.ofChange fnExactNewWorldSpec)) fnExactNewWorldCard

/-- THE SECOND FORM's CARD OF 'laws.FnExactNewWorld'. -/
def fnExactNewWorldUptoCard : Claim7 := { stood := { row := fnExactNewWorldUptoRow, standIns := [], harness := (true, "002a92ba7f9e1aac754bf480981bc34f285cf8f3573b5da424c2d841f15b2fcf"), looks := false }, kinds := [], alts := [], laidByText := true, laidKinds := [.data, .pinned], laidTests := true, laidLooks := .later }
def FnExactNewWorldUptoCardSaid : Prop := Claim7.holds Tryz.pinned (.plain (OpenSpec.upto fnExactNewWorldSpec)) fnExactNewWorldUptoCard
end Rows
end Go.Proofs.YtefkjglmpmakcaaGreatDoor
