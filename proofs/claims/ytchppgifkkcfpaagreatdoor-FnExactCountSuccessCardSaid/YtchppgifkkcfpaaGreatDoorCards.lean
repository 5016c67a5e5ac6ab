/-
  DERIVED. GIVEN WITH THE SEED: THE CARDS: each row of YtchppgifkkcfpaaGreatDoorRows.lean that lists a variable, with what it lists TIED to the program's text (the seventh form; the later family's looks); each row that meets fmt, with fmt's text TOLD by the authors' own Lean function (tested against real Go, not proved from fmt's source: count such statements apart). THE CARD IS WHAT COUNTS. Prove the row's statement (the work); the ties are given (YtchppgifkkcfpaaGreatDoorTie.lean); close each card by the builder's one call (the guide's Derived/Test/ToyasCard.lean, 'card_holds'). Laid BY PROGRAM, IN A SANDBOX (cutbox-door.mjs). By AI agents, Wed Nov 11 2026. No macro, syntax, notation, axiom, sorry.
-/
import Derived.Test.YtchppgifkkcfpaaGreatDoorRows
import GoSem.ClaimSeven
namespace Go.Proofs.YtchppgifkkcfpaaGreatDoor
namespace Rows

/-- THE TIED CARD OF 'laws.FnExactCountSuccess'. -/
def fnExactCountSuccessCard : Claim7 := { stood := { row := fnExactCountSuccessRow, standIns := [], harness := (true, "cc78daa8f5e3baea4c8a87d51b983d6e55358a2215bb6322994cb706e01b4bd2"), looks := true }, kinds := [], alts := [], laidByText := true, laidKinds := [.pinned, .data, .data, .data, .data, .sentinel, .sentinel], laidTests := true, laidLooks := .later }
def FnExactCountSuccessCardSaid : Prop := Claim7.holds Tryz.pinned (.plain (OpenSpec.ofChange fnExactCountSuccessSpec)) fnExactCountSuccessCard

/-- THE SECOND FORM's CARD OF 'laws.FnExactCountSuccess'. -/
def fnExactCountSuccessUptoCard : Claim7 := { stood := { row := fnExactCountSuccessUptoRow, standIns := [], harness := (true, "cc78daa8f5e3baea4c8a87d51b983d6e55358a2215bb6322994cb706e01b4bd2"), looks := true }, kinds := [], alts := [], laidByText := true, laidKinds := [.pinned, .data, .data, .data, .data, .sentinel, .sentinel], laidTests := true, laidLooks := .later }
def FnExactCountSuccessUptoCardSaid : Prop := Claim7.holds Tryz.pinned (.plain (OpenSpec.upto fnExactCountSuccessSpec)) fnExactCountSuccessUptoCard
end Rows
end Go.Proofs.YtchppgifkkcfpaaGreatDoor
